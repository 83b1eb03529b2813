/- Walks: the references that read packed numbers, counts, texts. -/
import Derived.Test.YtnijomppbgdmnaaGreatSgP
import Derived.Test.YtnijomppbgdmnaaGreatRshRP
import Derived.Test.YtnijomppbgdmnaaGreatSrP
import Derived.Test.YtnijomppbgdmnaaGreatSesRP
import Derived.Test.YtnijomppbgdmnaaGreatTzP
import Derived.Test.YtnijomppbgdmnaaGreatMsRP
import Derived.Test.YtnijomppbgdmnaaGreatMbRP
import Derived.Test.YtnijomppbgdmnaaGreatMcRP
set_option linter.unusedSimpArgs false
set_option linter.unusedVariables false
namespace Go.Proofs.YtnijomppbgdmnaaGreat
section
open Go.RowKit Go.Sx
set_option maxRecDepth 100000
set_option maxHeartbeats 1000000
theorem pk_room2 {x c i : Nat} (hi : i < 10) (hx : x < 128 ^ i) (h9 : i = 9 → c ≤ 1) : c % 128 * 128 ^ i < 18446744073709551616 ∧ x + c % 128 * 128 ^ i < 18446744073709551616 ∧ 128 ^ i < 18446744073709551616 ∧ (1 < c → 128 * 128 ^ i < 18446744073709551616) := by
 have h3 : (128 : Nat) ^ 9 = 9223372036854775808 := by decide
 have h5 : (128 : Nat) ^ 8 = 72057594037927936 := by decide
 by_cases hi9 : i = 9
 · have := h9 hi9
   subst hi9
   have h6 : c % 128 ≤ 1 := by omega
   rw [h3] at hx ⊢
   refine ⟨by omega, by omega, by omega, fun h => by omega⟩
 · have h4 : (128 : Nat) ^ i ≤ 128 ^ 8 := Nat.pow_le_pow_right (by decide) (by omega)
   have h2 := Nat.mul_le_mul_right (128 ^ i) (show c % 128 ≤ 127 by omega)
   rw [h5] at h4
   refine ⟨by omega, by omega, by omega, fun _ => by omega⟩

theorem rReadPacked_c {w0 : World} {H : List SA} {a : Option Addr} {l : List UInt8} {c k : Nat} [hr : RdB w0 H (.slice a l.length c) l] (hk : k ≤ l.length) (hl : l.length ≤ 4294967296) :
 CT Tryz.prog w0 (H) 132 [.slice a l.length c, .int .i64 (k : Int)] (α := Unit) (fun _ => .agg (GotV.mk ((rdPacked (l.drop k)).2.1 : Int) ⟨none, 0, []⟩ ((rdPacked (l.drop k)).2.2 : Int) (rdPacked (l.drop k)).1).cells) (fun _ => H) := by
 refine CT_intro Tryz.func132 rfl Tryz.ntmps132 rfl (T2 (ze rfl (Ef_allocN (fun b4 => ?_))))
 refine T4 (zy (za (.int .u64 _) rfl) (T4 (zy (za (.int .u64 _) rfl) (TX (zS (T2 (Qai rfl rfl (TX (zB ?_)))))))))
 refine T_loop [5, 6, 7, 8, 9, 10, 11, 12, 13, 14, 15, 16, 17, 18, 19, 20, 21, 22, 23, 24, 25, 26, 27, 28, 29, 30, 31, 32, 33, 34, 35, 36, 37, 38, 39, 40, 41, 42, 43, 44, 45, 46, 47, 48, 49, 50, 51, 52, 53, 54] [7, 5, 6] (fun us H' => ∃ (i : Nat) (x : Nat), us = [.int .i64 (i : Int), .int .u64 (x : Int), .int .u64 ((128 ^ i : Nat) : Int)] ∧ blk b4 (.cells GotV.zero.cells 123 (0, 0)) :: H = H' ∧ i ≤ 10 ∧ (x < 128 ^ i) ∧ ((rdPacked (l.drop k)) = pk (l.drop k) (10 - i) i x)) (fun us => match us with | .int _ i :: _ => 10 - i.toNat | _ => 0) ⟨0, 0, rfl, rfl, by omega, by simp, rfl⟩ SB ?_
 rintro τ0 _ _  ⟨i, x, rfl, rfl, hi0, hx, hpk⟩ _
 refine zS (T2 (Qmi rfl rfl (zy (Qt_lss rfl rfl) (TX (zC rfl (fun h10 => ?_) (fun h10 => ?_))))))
 ·
  have p10 := cL h10
  have hi10 : i < 10 := by omega
  refine zk (zx (zS (zB (zS (T2 (Qmi rfl rfl (Qmi rfl rfl (zy (zj rfl rfl) (Qms rfl rfl (zy (zL rfl Tryz.underlying33) (zy (Qt_geq rfl rfl) (TX (zC rfl (fun h18 => ?_) (fun h18 => ?_))))))))))))))
  ·
   have p18 := cL h18
   refine T2 (zy (zw [(3, (.int .i64 _))] rfl) (zN (zs rfl rfl (TX (zQ (zr (zb (zr (X_loop_ret (zb (zr ?_)))))))))))
   have e : (rdPacked (l.drop k)) = (1, 0, 0) := hpk.trans (pk_short hi10 (by simp; omega))
   exact zX () [_] Tryz.results132 ⟨⟨_, rfl, res_cellN rfl⟩, trivial⟩ (by rw [e]; rfl) SB
  have p18 := cL h18
  have hki : k + i < l.length := by omega
  have hgc : (l.drop k)[i]? = some l[k + i] := by rw [List.getElem?_drop, List.getElem?_eq_getElem hki]
  have hat := pk_at (x := x) hi10 hgc
  have hc8 := l[k + i].toNat_lt
  refine S4 (Qms rfl rfl (Qmi rfl rfl (Qmi rfl rfl (zy (zj rfl rfl) (zy (Qt_indexR rfl rfl (by omega) (by simp; omega)) (zy (Qt_loadR (.int .u8 (l[k + i].toNat : Int)) rfl (bytes_get _ _ hki)) (zy (za (.int .u8 _) rfl) (TX (zS (T2 (Qmi rfl rfl (zy (Qt_eql rfl rfl) (Qmb rfl rfl ?_)))))))))))))
  refine TL_split 28 rfl (fun h28 => ?_) (fun h28 => ?_)
  ·
   have p28 := cL h28
   refine zt rfl rfl h28 (zy (zm (.int .u8 _) rfl) (zt rfl rfl h28 (zy (Qt_gtr rfl rfl) (zy (zT (.bool _) rfl h28 rfl) (TX (zC rfl (fun h31 => ?_) (fun h31 => ?_)))))))
   ·
    have p31 := cL h31
    have hc31 : i = 9 ∧ 1 < l[k + i].toNat := by first | omega | (simp_all; done) | (simp_all; omega)
    refine T2 (zy (zw [(3, (.int .i64 _))] rfl) (zN (zs rfl rfl (TX (zQ (zr (zb (zr (X_loop_ret (zb (zr ?_)))))))))))
    have e : (rdPacked (l.drop k)) = (2, 0, 0) := hpk.trans (by rw [hat, if_pos hc31])
    exact zX () [_] Tryz.results132 ⟨⟨_, rfl, res_cellN rfl⟩, trivial⟩ (by rw [e]; rfl) SB
   have p31 := cL h31
   have hn31 : ¬ (i = 9 ∧ 1 < l[k + i].toNat) := by first | omega | (simp_all; done) | (simp_all; omega)
   obtain ⟨hr1, hr2, hr3⟩ := pk_room (c := l[k + i].toNat) hi10 hx (by omega)
   obtain ⟨hs1, hs2, hs3, hs4⟩ := pk_room2 (c := l[k + i].toNat) hi10 hx (by omega)
   refine S4 (zy (zm (.int .u64 _) rfl) (zy (zm (.int .u8 _) rfl) (zy (Qt_val (Qt_rem rfl rfl (by decide)) (congrArg (Value.int .u8) (rem_nat l[k + i].toNat 128))) (zy (Qt_conv_u64 rfl rfl Tryz.underlying121 (by omega) (by omega)) (zy (zm (.int .u64 _) rfl) (zy (Qt_val (Qt_mulw rfl rfl) (congrArg (Value.int .u64) (show IntKind.u64.wrap (((l[k + i].toNat % 128 : Nat) : Int) * ((128 ^ i : Nat) : Int)) = ((l[k + i].toNat % 128 * 128 ^ i : Nat) : Int) from by rw [← Int.natCast_mul]; exact wrap_u64 (by omega) (by omega)))) (zy (Qt_val (Qt_addw rfl rfl) (congrArg (Value.int .u64) (show IntKind.u64.wrap ((x : Int) + ((l[k + i].toNat % 128 * 128 ^ i : Nat) : Int)) = ((x + l[k + i].toNat % 128 * 128 ^ i : Nat) : Int) from by rw [← Int.natCast_add]; exact wrap_u64 (by omega) (by omega)))) (zy (za (.int .u64 _) rfl) (TX (zS (T2 ?_)))))))))))
   refine zy (zm (.int .u8 _) rfl) (zy (Qt_lss rfl rfl) (TX (zC rfl (fun h41 => ?_) (fun h41 => ?_))))
   ·
    have p41 := cL h41
    have hlt : l[k + i].toNat < 128 := by omega
    refine zS (T2 (zy (zm (.int .u8 _) rfl) (zy (Qt_eql rfl rfl) (Qmb rfl rfl (TL_split 44 rfl (fun h44 => ?_) (fun h44 => ?_))))))
    ·
     have p44 := cL h44
     refine zt rfl rfl h44 (Qmi rfl rfl (zt rfl rfl h44 (zy (Qt_gtr rfl rfl) (zy (zT (.bool _) rfl h44 rfl) (TX (zC rfl (fun h47 => ?_) (fun h47 => ?_)))))))
     ·
      have p47 := cL h47
      have hc47 : l[k + i].toNat = 0 ∧ 0 < i := by first | omega | (simp_all; done) | (simp_all; omega)
      refine T2 (zy (zw [(3, (.int .i64 _))] rfl) (zN (zs rfl rfl (TX (zQ (zr (zr (zb (zr (X_loop_ret (zb (zr ?_))))))))))))
      have e : (rdPacked (l.drop k)) = (2, 0, 0) := hpk.trans (by rw [hat, if_neg hn31, if_pos hlt, if_pos hc47])
      exact zX () [_] Tryz.results132 ⟨⟨_, rfl, res_cellN rfl⟩, trivial⟩ (by rw [e]; rfl) SB
     have p47 := cL h47
     have hn47 : ¬ (l[k + i].toNat = 0 ∧ 0 < i) := by first | omega | (simp_all; done) | (simp_all; omega)
     refine S4 (zy (zm (.int .u64 _) rfl) (Qmi rfl rfl (zy (zj rfl rfl) (zy (zw [(0, (.int .u64 _)), (2, (.int .i64 _))] rfl) (zN (zs rfl rfl (TX (zQ (zr (zb (zr (X_loop_ret (zb (zr ?_))))))))))))))
     have e : (rdPacked (l.drop k)) = (0, x + l[k + i].toNat % 128 * 128 ^ i, i + 1) := hpk.trans (by rw [hat, if_neg hn31, if_pos hlt, if_neg hn47])
     exact zX () [_] Tryz.results132 ⟨⟨_, rfl, res_cellN rfl⟩, trivial⟩ (by rw [e]; rfl) SB
    have p44 := cL h44
    refine zp rfl rfl h44 rfl (zp rfl rfl h44 rfl (zy (zF (.bool _) rfl h44 rfl) (TX (T_cond_false rfl rfl ?_))))
    have hn47 : ¬ (l[k + i].toNat = 0 ∧ 0 < i) := by first | omega | (simp_all; done) | (simp_all; omega)
    refine S4 (zy (zm (.int .u64 _) rfl) (Qmi rfl rfl (zy (zj rfl rfl) (zy (zw [(0, (.int .u64 _)), (2, (.int .i64 _))] rfl) (zN (zs rfl rfl (TX (zQ (zr (zb (zr (X_loop_ret (zb (zr ?_))))))))))))))
    have e : (rdPacked (l.drop k)) = (0, x + l[k + i].toNat % 128 * 128 ^ i, i + 1) := hpk.trans (by rw [hat, if_neg hn31, if_pos hlt, if_neg hn47])
    exact zX () [_] Tryz.results132 ⟨⟨_, rfl, res_cellN rfl⟩, trivial⟩ (by rw [e]; rfl) SB
   have p41 := cL h41
   have hge : ¬ l[k + i].toNat < 128 := by omega
   rw [if_neg hn31, if_neg hge] at hat
   have hs5 := hs4 (by omega)
   refine zk (zx (zR (zy (zm (.int .u64 _) rfl) (zy (Qt_val (Qt_mulw rfl rfl) (congrArg (Value.int .u64) (show IntKind.u64.wrap (128 * ((128 ^ i : Nat) : Int)) = ((128 ^ (i + 1) : Nat) : Int) from by rw [show (128 : Int) * ((128 ^ i : Nat) : Int) = ((128 * 128 ^ i : Nat) : Int) from by rw [Int.natCast_mul]; rfl, wrap_u64 (by omega) (by omega), Nat.pow_succ, Nat.mul_comm]))) (zy (za (.int .u64 _) rfl) (zz (X_block (zx (zR (Qmi rfl rfl (zy (zj rfl rfl) (Qai rfl rfl (zz ?_)))))))))))))
   apply X_loop
   case ha => exact zA
   case hI => exact ⟨i + 1, _, rfl, rfl, by omega, hr3, hpk.trans hat⟩
   case hm => exact by show 10 - (i + 1 : Int).toNat < 10 - (i : Int).toNat; omega
   case hH => exact SB
  have p28 := cL h28
  refine zp rfl rfl h28 rfl (zp rfl rfl h28 rfl (zy (zF (.bool _) rfl h28 rfl) (TX (T_cond_false rfl rfl ?_))))
  have hn31 : ¬ (i = 9 ∧ 1 < l[k + i].toNat) := by first | omega | (simp_all; done) | (simp_all; omega)
  obtain ⟨hr1, hr2, hr3⟩ := pk_room (c := l[k + i].toNat) hi10 hx (by omega)
  obtain ⟨hs1, hs2, hs3, hs4⟩ := pk_room2 (c := l[k + i].toNat) hi10 hx (by omega)
  refine S4 (zy (zm (.int .u64 _) rfl) (zy (zm (.int .u8 _) rfl) (zy (Qt_val (Qt_rem rfl rfl (by decide)) (congrArg (Value.int .u8) (rem_nat l[k + i].toNat 128))) (zy (Qt_conv_u64 rfl rfl Tryz.underlying121 (by omega) (by omega)) (zy (zm (.int .u64 _) rfl) (zy (Qt_val (Qt_mulw rfl rfl) (congrArg (Value.int .u64) (show IntKind.u64.wrap (((l[k + i].toNat % 128 : Nat) : Int) * ((128 ^ i : Nat) : Int)) = ((l[k + i].toNat % 128 * 128 ^ i : Nat) : Int) from by rw [← Int.natCast_mul]; exact wrap_u64 (by omega) (by omega)))) (zy (Qt_val (Qt_addw rfl rfl) (congrArg (Value.int .u64) (show IntKind.u64.wrap ((x : Int) + ((l[k + i].toNat % 128 * 128 ^ i : Nat) : Int)) = ((x + l[k + i].toNat % 128 * 128 ^ i : Nat) : Int) from by rw [← Int.natCast_add]; exact wrap_u64 (by omega) (by omega)))) (zy (za (.int .u64 _) rfl) (TX (zS (T2 ?_)))))))))))
  refine zy (zm (.int .u8 _) rfl) (zy (Qt_lss rfl rfl) (TX (zC rfl (fun h41 => ?_) (fun h41 => ?_))))
  ·
   have p41 := cL h41
   have hlt : l[k + i].toNat < 128 := by omega
   refine zS (T2 (zy (zm (.int .u8 _) rfl) (zy (Qt_eql rfl rfl) (Qmb rfl rfl (TL_split 44 rfl (fun h44 => ?_) (fun h44 => ?_))))))
   ·
    have p44 := cL h44
    refine zt rfl rfl h44 (Qmi rfl rfl (zt rfl rfl h44 (zy (Qt_gtr rfl rfl) (zy (zT (.bool _) rfl h44 rfl) (TX (zC rfl (fun h47 => ?_) (fun h47 => ?_)))))))
    ·
     have p47 := cL h47
     have hc47 : l[k + i].toNat = 0 ∧ 0 < i := by first | omega | (simp_all; done) | (simp_all; omega)
     refine T2 (zy (zw [(3, (.int .i64 _))] rfl) (zN (zs rfl rfl (TX (zQ (zr (zr (zb (zr (X_loop_ret (zb (zr ?_))))))))))))
     have e : (rdPacked (l.drop k)) = (2, 0, 0) := hpk.trans (by rw [hat, if_neg hn31, if_pos hlt, if_pos hc47])
     exact zX () [_] Tryz.results132 ⟨⟨_, rfl, res_cellN rfl⟩, trivial⟩ (by rw [e]; rfl) SB
    have p47 := cL h47
    have hn47 : ¬ (l[k + i].toNat = 0 ∧ 0 < i) := by first | omega | (simp_all; done) | (simp_all; omega)
    refine S4 (zy (zm (.int .u64 _) rfl) (Qmi rfl rfl (zy (zj rfl rfl) (zy (zw [(0, (.int .u64 _)), (2, (.int .i64 _))] rfl) (zN (zs rfl rfl (TX (zQ (zr (zb (zr (X_loop_ret (zb (zr ?_))))))))))))))
    have e : (rdPacked (l.drop k)) = (0, x + l[k + i].toNat % 128 * 128 ^ i, i + 1) := hpk.trans (by rw [hat, if_neg hn31, if_pos hlt, if_neg hn47])
    exact zX () [_] Tryz.results132 ⟨⟨_, rfl, res_cellN rfl⟩, trivial⟩ (by rw [e]; rfl) SB
   have p44 := cL h44
   refine zp rfl rfl h44 rfl (zp rfl rfl h44 rfl (zy (zF (.bool _) rfl h44 rfl) (TX (T_cond_false rfl rfl ?_))))
   have hn47 : ¬ (l[k + i].toNat = 0 ∧ 0 < i) := by first | omega | (simp_all; done) | (simp_all; omega)
   refine S4 (zy (zm (.int .u64 _) rfl) (Qmi rfl rfl (zy (zj rfl rfl) (zy (zw [(0, (.int .u64 _)), (2, (.int .i64 _))] rfl) (zN (zs rfl rfl (TX (zQ (zr (zb (zr (X_loop_ret (zb (zr ?_))))))))))))))
   have e : (rdPacked (l.drop k)) = (0, x + l[k + i].toNat % 128 * 128 ^ i, i + 1) := hpk.trans (by rw [hat, if_neg hn31, if_pos hlt, if_neg hn47])
   exact zX () [_] Tryz.results132 ⟨⟨_, rfl, res_cellN rfl⟩, trivial⟩ (by rw [e]; rfl) SB
  have p41 := cL h41
  have hge : ¬ l[k + i].toNat < 128 := by omega
  rw [if_neg hn31, if_neg hge] at hat
  have hs5 := hs4 (by omega)
  refine zk (zx (zR (zy (zm (.int .u64 _) rfl) (zy (Qt_val (Qt_mulw rfl rfl) (congrArg (Value.int .u64) (show IntKind.u64.wrap (128 * ((128 ^ i : Nat) : Int)) = ((128 ^ (i + 1) : Nat) : Int) from by rw [show (128 : Int) * ((128 ^ i : Nat) : Int) = ((128 * 128 ^ i : Nat) : Int) from by rw [Int.natCast_mul]; rfl, wrap_u64 (by omega) (by omega), Nat.pow_succ, Nat.mul_comm]))) (zy (za (.int .u64 _) rfl) (zz (X_block (zx (zR (Qmi rfl rfl (zy (zj rfl rfl) (Qai rfl rfl (zz ?_)))))))))))))
  apply X_loop
  case ha => exact zA
  case hI => exact ⟨i + 1, _, rfl, rfl, by omega, hr3, hpk.trans hat⟩
  case hm => exact by show 10 - (i + 1 : Int).toNat < 10 - (i : Int).toNat; omega
  case hH => exact SB
 have p10 := cL h10
 have hi : i = 10 := by omega
 subst hi
 refine zY (zG (zW (zE (zx (T2 (zy (zw [(3, (.int .i64 _))] rfl) (zN (zs rfl rfl (TX (zQ ?_))))))))))
 have e : (rdPacked (l.drop k)) = (2, 0, 0) := hpk.trans (rfl)
 exact zX () [_] Tryz.results132 ⟨⟨_, rfl, res_cellN rfl⟩, trivial⟩ (by rw [e]; rfl) SB
theorem rReadCount_c {w0 : World} {H : List SA} {a : Option Addr} {l : List UInt8} {c k : Nat} [hr : RdB w0 H (.slice a l.length c) l] (hk : k ≤ l.length) (hl : l.length ≤ 4294967296) {m : Int} (hm0 : -9223372036854775808 ≤ m) (hm : m ≤ 9223372036854775807) :
 CT Tryz.prog w0 (H) 83 [.slice a l.length c, .int .i64 (k : Int), .int .i64 m] (α := Unit) (fun _ => .agg (GotV.mk ((rdCount (l.drop k) m).2.1 : Int) ⟨none, 0, []⟩ ((rdCount (l.drop k) m).2.2 : Int) (rdCount (l.drop k) m).1).cells) (fun _ => H) := by
 refine CT_intro Tryz.func83 rfl Tryz.ntmps83 rfl (T2 (ze rfl (Ef_allocN (fun b6 => ?_))))
 refine T4 (Qms rfl rfl (Qmi rfl rfl (ze rfl (zc (rReadPacked_c hk hl) rfl (fun x10 => ?_)))))
 obtain ⟨P, hP⟩ : ∃ P, P = (rdPacked (l.drop k)) := ⟨_, rfl⟩
 have hpe : P.1 ≠ 0 → P.2 = (0, 0) := fun h => by rw [hP] at h ⊢; exact rdPacked_err h
 have hpb := (rdPacked_bound (l.drop k)).2.2
 rw [← hP] at hpb ⊢
 refine ze rfl (Ef_allocN (fun b7 => ?_))
 refine zN (zs rfl rfl (TX (zS (T2 (zy (zf 3 rfl rfl) (zy (zl rfl) (zy (Qt_eql rfl rfl) (Qmb rfl rfl (TL_split 14 rfl (fun h14 => ?_) (fun h14 => ?_))))))))))
 ·
  have p14 := cL h14
  refine zt rfl rfl h14 (Qmi rfl rfl (zt rfl rfl h14 (zy (Qt_lss rfl rfl) (zt rfl rfl h14 (Qmb rfl rfl (TL_split 17 rfl (fun h17 => ?_) (fun h17 => ?_)))))))
  ·
   have p17 := cL h17
   refine zp rfl rfl h17 rfl (zp rfl rfl h17 rfl (zp rfl rfl h17 rfl (zp rfl rfl h17 rfl (zp rfl rfl h17 rfl (zt rfl rfl h14 (zy (zT (.bool _) rfl h17 rfl) (zy (zT (.bool _) rfl h14 rfl) (TX (T_cond_true rfl rfl (T2 (zy (zw [(3, (.int .i64 _))] rfl) (zN (zs rfl rfl (?_))))))))))))))
   refine TX (zQ (zr ?_))
   have e : (rdCount (l.drop k) m) = (3, 0, 0) := by unfold rdCount; rw [← hP, if_neg (by first | omega | (simp_all; done) | (simp_all; omega)), if_pos (by first | omega | (simp_all; done) | (simp_all; omega))]
   exact zX () [_] Tryz.results83 ⟨⟨_, rfl, res_cellN rfl⟩, trivial⟩ (by rw [e]; rfl) SB
  have p17 := cL h17
  refine zt rfl rfl h17 (zy (zf 0 rfl rfl) (zt rfl rfl h17 (zy (zl rfl) (zt rfl rfl h17 (Qmi rfl rfl (zt rfl rfl h17 (zy (Qt_conv_u64 rfl rfl Tryz.underlying121 (by omega) (by omega)) (zt rfl rfl h17 (zy (Qt_gtr rfl rfl) (zt rfl rfl h14 (zy (zF (.bool _) rfl h17 rfl) (zy (zT (.bool _) rfl h14 rfl) (TX (zC rfl (fun h24 => ?_) (fun h24 => ?_)))))))))))))))
  ·
   have p24 := cL h24
   refine T2 (zy (zw [(3, (.int .i64 _))] rfl) (zN (zs rfl rfl (TX (zQ (zr ?_))))))
   have e : (rdCount (l.drop k) m) = (3, 0, 0) := by unfold rdCount; rw [← hP, if_neg (by first | omega | (simp_all; done) | (simp_all; omega)), if_pos (by first | omega | (simp_all; done) | (simp_all; omega))]
   exact zX () [_] Tryz.results83 ⟨⟨_, rfl, res_cellN rfl⟩, trivial⟩ (by rw [e]; rfl) SB
  have p24 := cL h24
  refine S4 (zy (zn rfl rfl) (zN (zs rfl rfl (TX (zQ ?_)))))
  have e : (rdCount (l.drop k) m) = P := by
   unfold rdCount
   rw [← hP]
   by_cases hp : P.1 ≠ 0
   · rw [if_pos hp, ← hpe hp]
   · rw [if_neg hp, if_neg (by first | omega | (simp_all; done) | (simp_all; omega))]
  exact zX () [_] Tryz.results83 ⟨⟨_, rfl, res_cellN rfl⟩, trivial⟩ (by rw [e]; rfl) SB
 have p14 := cL h14
 refine zp rfl rfl h14 rfl (zp rfl rfl h14 rfl (zp rfl rfl h14 rfl (TL_passU rfl rfl rfl (TL_passU rfl rfl rfl (TL_passU rfl rfl rfl (TL_passU rfl rfl rfl (TL_passU rfl rfl rfl (zp rfl rfl h14 rfl (zy (zF (.bool _) rfl h14 rfl) (TX (T_cond_false rfl rfl (S4 (zy (zn rfl rfl) ?_)))))))))))))
 refine zN (zs rfl rfl (TX (zQ ?_)))
 have e : (rdCount (l.drop k) m) = P := by
  unfold rdCount
  rw [← hP]
  by_cases hp : P.1 ≠ 0
  · rw [if_pos hp, ← hpe hp]
  · rw [if_neg hp, if_neg (by first | omega | (simp_all; done) | (simp_all; omega))]
 exact zX () [_] Tryz.results83 ⟨⟨_, rfl, res_cellN rfl⟩, trivial⟩ (by rw [e]; rfl) SB
theorem rReadText_c {w0 : World} {H : List SA} {a : Option Addr} {l : List UInt8} {c k : Nat} [hr : RdB w0 H (.slice a l.length c) l] (hk : k ≤ l.length) (hl : l.length ≤ 4294967296) {m : Int} (hm0 : -9223372036854775808 ≤ m) (hm : m ≤ 9223372036854775807) :
 CT Tryz.prog w0 (H) 44 [.slice a l.length c, .int .i64 (k : Int), .int .i64 m] (α := AC) (fun y => .agg (GotV.mk 0 ⟨y.a, y.c, (rdText (l.drop k) m).2.1⟩ ((rdText (l.drop k) m).2.2 : Int) (rdText (l.drop k) m).1).cells) (fun y => row (.slice y.a (rdText (l.drop k) m).2.1.length y.c) 5 1 (bytesV (rdText (l.drop k) m).2.1) :: H) := by
 refine CT_intro Tryz.func44 rfl Tryz.ntmps44 rfl (T2 (ze rfl (Ef_allocN (fun b6 => ?_))))
 refine T4 (Qms rfl rfl (Qmi rfl rfl (Qmi rfl rfl (ze rfl (zc (rReadCount_c hk hl hm0 hm) rfl (fun x14 => ?_))))))
 obtain ⟨P, hP⟩ : ∃ P, P = (rdCount (l.drop k) m) := ⟨_, rfl⟩
 have hpe : P.1 ≠ 0 → P.2 = (0, 0) := fun h => by rw [hP] at h ⊢; exact rdCount_err h
 obtain ⟨hb1, hb2, hb3⟩ := rdCount_bound (l.drop k) m
 rw [List.length_drop] at hb2
 rw [← hP] at hb1 hb2 hb3 ⊢
 refine ze rfl (Ef_allocN (fun b7 => ?_))
 refine zN (zs rfl rfl (TX (zS (T2 (zy (zf 3 rfl rfl) (zy (zl rfl) (zy (Qt_neq rfl rfl) (TX (zC rfl (fun h17 => ?_) (fun h17 => ?_))))))))))
 ·
  have p17 := cL h17
  refine T2 (zy (zn rfl rfl) (zN (zs rfl rfl (TX (zQ (zr ?_))))))
  have e : (rdText (l.drop k) m) = (P.1, [], 0) := by unfold rdText; rw [← hP, if_pos (by omega)]
  simp only [e]
  have hz := hpe (by omega)
  obtain ⟨p1, p2, p3⟩ := P
  obtain ⟨rfl, rfl⟩ : p2 = 0 ∧ p3 = 0 := by simpa using hz
  exact zX ⟨none, 0⟩ [_] Tryz.results44 ⟨⟨_, rfl, res_cellN rfl⟩, trivial⟩ rfl (fun w hw => St.addNilB 5 (SB w hw : St w0 H w))
 have p17 := cL h17
 have hp0 : P.1 = 0 := by omega
 refine S4 (zy (zf 0 rfl rfl) (zy (zl rfl) ?_))
 have hmn : (P.2.1 : Int) ≤ m := by rw [hP] at hp0 ⊢; have := (rdCount_ok hp0).2.1; rw [(rdCount_ok hp0).1]; exact this
 refine zy (Qt_conv_i64 rfl rfl Tryz.underlying3 (by omega) (by omega)) (Qai rfl rfl (T4 (Qmi rfl rfl (zy (zf 2 rfl rfl) (zy (zl rfl) (zy (zj rfl rfl) (Qai rfl rfl (TX (zS (T2 (Qmi rfl rfl (Qms rfl rfl (zy (zL rfl Tryz.underlying33) (Qmi rfl rfl (zy (zh rfl rfl) (zy (Qt_gtr rfl rfl) ?_))))))))))))))))
 refine TX (zC rfl (fun h31 => ?_) (fun h31 => ?_))
 ·
  have p31 := cL h31
  refine T2 (zy (zw [(3, (.int .i64 _))] rfl) (zN (zs rfl rfl (TX (zQ (zr ?_))))))
  have e : (rdText (l.drop k) m) = (1, [], 0) := by unfold rdText; rw [← hP, if_neg (by omega), if_pos (by rw [List.length_drop]; omega)]
  simp only [e]
  exact zX ⟨none, 0⟩ [_] Tryz.results44 ⟨⟨_, rfl, res_cellN rfl⟩, trivial⟩ rfl (fun w hw => St.addNilB 5 (SB w hw : St w0 H w))
 have p31 := cL h31
 refine S4 (zy (zf 2 rfl rfl) (zy (zl rfl) (Qmi rfl rfl (zy (zj rfl rfl) (zy (zw [(2, (.int .i64 _))] rfl) (ze rfl (Ef_allocN (fun b10 => ?_))))))))
 refine zN (zs rfl rfl (TL_conv (fun w hw => St.addNilB 5 hw) ?_))
 refine TX (zS ?_)
 refine T_drawF H (by kernel_rfl) SB (zI (i := 0) rfl (zf 1 rfl rfl) (zI (i := 2) rfl (zm (.slice _ _ _) rfl) (zI (i := 3) rfl (zm (.int .i64 _) rfl) (zI (i := 4) rfl (zm (.int .i64 _) rfl) (zI (i := 5) rfl (zm (.int .i64 _) rfl) ?_)))))
 first
  | refine zI (i := 6) rfl (zj rfl rfl) ?_
  | refine zI (i := 6) rfl (Qt_addw rfl rfl) ?_
 refine zI (i := 7) rfl (Qt_sliceB_lh (k + P.2.2) P.2.1 rfl (by refine congrArg (Value.int .i64) ?_; omega) (by refine congrArg (Value.int .i64) ?_; omega) (by omega)) ?_
 refine zV (i := 1) (DLS_e rfl rfl (Ef_of_Qt (zl rfl) ⟨SB, (zV (i := 8) (DLS_e rfl rfl (Ef_appendB (sv := .slice _ _ _) (xv := .slice _ _ _) rfl rfl (by first | omega | (simp; omega)) rfl (fun a46 c46 => ⟨SB, ?_⟩))))⟩))
 rw [List.nil_append]
 refine zI (i := 9) rfl (zf 1 rfl rfl) (zV (i := 10) (DLS_n rfl (Ef_store1 (.slice _ _ _) rfl rfl (⟨SB, (DLF_nil (by kernel_rfl) (zx (T2 (zy (zn rfl rfl) (zN (zs rfl rfl (TX (zQ ?_))))))))⟩))))
 have e : (rdText (l.drop k) m) = (0, (l.drop (k + P.2.2)).take P.2.1, P.2.2 + P.2.1) := by unfold rdText; rw [← hP, if_neg (by omega), if_neg (by rw [List.length_drop]; omega), List.drop_drop]
 simp only [e]
 exact zX ⟨a46, c46⟩ [_] Tryz.results44 ⟨⟨_, rfl, res_cellN rfl⟩, trivial⟩ rfl SB
end
section
open Go.RowKit Go.Sx
set_option maxRecDepth 100000
set_option maxHeartbeats 1000000
theorem be_one {l : List UInt8} {o : Nat} (h : o < l.length) : be l o 1 = (l[o].toNat : Int) := by
 have e : (l.drop o).take 1 = [l[o]] := by rw [List.drop_eq_getElem_cons h]; rfl
 simp [be, e, beN]
theorem rd2 {l : List UInt8} {o : Nat} (h : o + 2 ≤ l.length) : ((rdFixed (l.drop o) ((2 : Nat) : Int)).2.1 : Int) = be l o 2 := by rw [rdFixed_ok rfl (by simp; omega)]; rfl
theorem hashAt_get {l : List UInt8} {i : Nat} (hi : i < 32) (h : 8 + i < l.length) : l[8 + i].toNat = (hashAt l)[i].toNat := by
 have e : (l.drop (8 + i)).take 1 = [l[8 + i]] := by rw [List.drop_eq_getElem_cons h]; rfl
 rw [← hashAt_byte hi h, e]
 simp [beN]
theorem be_lt2 (l : List UInt8) (o : Nat) : 0 ≤ be l o 2 ∧ be l o 2 < 65536 := by
 have h := beN_lt ((l.drop o).take 2)
 have h2 : (256 : Nat) ^ ((l.drop o).take 2).length ≤ 256 ^ 2 := Nat.pow_le_pow_right (by decide) (by simp; omega)
 have h3 : (256 : Nat) ^ 2 = 65536 := by decide
 unfold be
 omega
theorem rpt_err {l : List UInt8} (h : (rdCount l 16).1 ≠ 0) : (partsR l).1 = (rdCount l 16).1 := by rw [partsR, if_pos h]
attribute [local irreducible] beN rdText rdCount rdFixed partsR prs be hashAt
theorem rGetM_c {w0 : World} {H : List SA} {a0 : Option Addr} {l : List UInt8} {c0 : Nat} [hr : RdB w0 H (.slice a0 l.length c0) l] (hl : l.length ≤ 4294967296) :
 CT Tryz.prog w0 (H) 114 [.slice a0 l.length c0] (α := MsgV × List Nat) (fun y => .agg (MGotV.mk y.1 (getM l).1).cells) (fun y => pu (y.1.abs = (getM l).2) :: dat y.2 (Deep.leads y.1) :: H) := by
 refine CT_intro Tryz.func114 rfl Tryz.ntmps114 rfl (T2 (ze rfl (Ef_allocN (fun b2 => ?_))))
 refine TX (zS (T2 (Qms rfl rfl (zy (zL rfl Tryz.underlying33) (zy (Qt_gtr rfl rfl) (TX (zC rfl (fun h12 => ?_) (fun h12 => ?_))))))))
 ·
  have p12 := cL h12
  refine T2 (zy (zw [(1, (.int .i64 _))] rfl) (zN (zs rfl rfl (TX (zQ (zr ?_))))))
  have e : getM l = (4, .zero) := getM_full (by omega)
  exact zX (MsgV.zero, []) [_] Tryz.results114 ⟨⟨_, rfl, res_cellN rfl⟩, trivial⟩ (by rw [e]; rfl) (fun w hw => (St.datMsgZero (SB w hw : St w0 H w)).addPure (by rw [e]; rfl))
 have p12 := cL h12
 have h65 : ¬ 65504 < l.length := by omega
 refine zk (zx (zS (T2 (Qms rfl rfl (zy (zL rfl Tryz.underlying33) (zy (Qt_lss rfl rfl) (TX (zC rfl (fun h16 => ?_) (fun h16 => ?_)))))))))
 ·
  have p16 := cL h16
  refine T2 (zy (zw [(1, (.int .i64 _))] rfl) (zN (zs rfl rfl (TX (zQ (zr ?_))))))
  have e : getM l = (1, .zero) := by have hx := msgR_short (l := l) (by omega); rw [getM_bad h65 (by rw [hx]; first | assumption | decide | omega), hx]
  exact zX (MsgV.zero, []) [_] Tryz.results114 ⟨⟨_, rfl, res_cellN rfl⟩, trivial⟩ (by rw [e]; rfl) (fun w hw => (St.datMsgZero (SB w hw : St w0 H w)).addPure (by rw [e]; rfl))
 have p16 := cL h16
 have h40 : ¬ l.length < 40 := by omega
 refine zk (zx (zS (zD (blk b2 (.cells (MGotV.mk MsgV.zero 0).cells 98 (0, 0)) :: H) [(0, true), (1, true), (2, true), (3, true), (4, true), (5, true), (6, true), (7, true), (8, true), (9, false), (10, false)] SB (fun hns0 => ?_))))
 refine zd hns0 rfl (zm (.slice _ _ _) rfl) rfl (zd hns0 rfl (Qt_indexR rfl rfl (by omega) (by simp; omega)) rfl (zd hns0 rfl (Qt_loadR (.int .u8 (l[0].toNat : Int)) rfl (bytes_get l 0 (by omega))) rfl (zd hns0 rfl (Qt_val (Qt_conv_i64 rfl rfl Tryz.underlying3 (by omega) (by have := l[0].toNat_lt; omega)) (congrArg (Value.int .i64) (be_one (l := l) (o := 0) (by omega)).symm)) rfl (zd hns0 rfl (zm (.slice _ _ _) rfl) rfl (zd hns0 rfl (Qt_indexR rfl rfl (by omega) (by simp; omega)) rfl (zd hns0 rfl (Qt_loadR (.int .u8 (l[1].toNat : Int)) rfl (bytes_get l 1 (by omega))) rfl (zd hns0 rfl (Qt_val (Qt_conv_i64 rfl rfl Tryz.underlying3 (by omega) (by have := l[1].toNat_lt; omega)) (congrArg (Value.int .i64) (be_one (l := l) (o := 0 + 1) (by omega)).symm)) rfl (zd hns0 rfl (zw [(0, (.int .i64 _)), (1, (.int .i64 _))] rfl) rfl ?_))))))))
 refine DL_e rfl rfl (Ef_allocN (fun b3 => ⟨SB, ?_⟩))
 refine DL_n rfl (zs rfl rfl (⟨SB, (DL_nil (zx (T2 (Qms rfl rfl (ze rfl (zc (rReadFixed_c (k := 2) (n := ((2 : Nat) : Int)) (by omega) hl) rfl (fun x28 => ?_)))))))⟩))
 refine zy (Qt_field1 (ft := 121) rfl rfl) (zy (Qt_val (Qt_conv_i64 rfl rfl Tryz.underlying3 (by rw [rd2 (by omega)]; have := be_lt2 l 2; omega) (by rw [rd2 (by omega)]; have := be_lt2 l 2; omega)) (congrArg (Value.int .i64) (rd2 (l := l) (o := 2) (by omega)))) (zy (zf 2 rfl rfl) (zN (Ef_store1 (.int .i64 _) rfl rfl (T4 (Qms rfl rfl (ze rfl (zc (rReadFixed_c (k := 4) (n := ((2 : Nat) : Int)) (by omega) hl) rfl (fun x33 => ?_)))))))))
 refine zy (Qt_field1 (ft := 121) rfl rfl) (zy (Qt_val (Qt_conv_i64 rfl rfl Tryz.underlying3 (by rw [rd2 (by omega)]; have := be_lt2 l 4; omega) (by rw [rd2 (by omega)]; have := be_lt2 l 4; omega)) (congrArg (Value.int .i64) (rd2 (l := l) (o := 4) (by omega)))) (zy (zf 3 rfl rfl) (zN (Ef_store1 (.int .i64 _) rfl rfl (T4 (Qms rfl rfl (ze rfl (zc (rReadFixed_c (k := 6) (n := ((2 : Nat) : Int)) (by omega) hl) rfl (fun x38 => ?_)))))))))
 refine zy (Qt_field1 (ft := 121) rfl rfl) (zy (Qt_val (Qt_conv_i64 rfl rfl Tryz.underlying3 (by rw [rd2 (by omega)]; have := be_lt2 l 6; omega) (by rw [rd2 (by omega)]; have := be_lt2 l 6; omega)) (congrArg (Value.int .i64) (rd2 (l := l) (o := 6) (by omega)))) (zy (zf 4 rfl rfl) (zN (Ef_store1 (.int .i64 _) rfl rfl (TX (zS (T2 (Qai rfl rfl (TX (zB ?_))))))))))
 refine T_loop [4, 42, 43, 44, 45, 46, 47, 48, 49, 50, 51, 52, 53] [4] (fun us H' => ∃ (i : Nat), us = [.int .i64 (i : Int)] ∧ blk b3 (.cells (MsgV.mk (be l 0 1) (be l (0 + 1) 1) (be l (0 + 1 + 1) 2) (be l (0 + 1 + 1 + 2) 2) (be l (0 + 1 + 1 + 2 + 2) 2) (hvec (hashAt l) i) ⟨none, 0, []⟩ ⟨none, 0, []⟩).cells 82 (0, 0)) :: blk b2 (.cells (MGotV.mk MsgV.zero 0).cells 98 (0, 0)) :: H = H' ∧ i ≤ 32) (fun us => match us with | .int _ i :: _ => 32 - i.toNat | _ => 0) ⟨0, rfl, rfl, by omega⟩ (fun w hw => by
  rw [hvec_zero]
  exact (SB w hw : St w0 (blk b3 (.cells (MsgV.mk (be l 0 1) (be l (0 + 1) 1) (be l (0 + 1 + 1) 2) (be l (0 + 1 + 1 + 2) 2) (be l (0 + 1 + 1 + 2 + 2) 2) (zeroV 32) ⟨none, 0, []⟩ ⟨none, 0, []⟩).cells 82 (0, 0)) :: blk b2 (.cells (MGotV.mk MsgV.zero 0).cells 98 (0, 0)) :: H) w)) ?_
 rintro τ0 _ _  ⟨i, rfl, rfl, hi0⟩ _
 refine zS (T2 (Qmi rfl rfl (zy (Qt_lss rfl rfl) (TX (zC rfl (fun h43 => ?_) (fun h43 => ?_))))))
 ·
  have p43 := cL h43
  have hi : i < 32 := by omega
  refine zk (zx (zS (zB (zR (Qmi rfl rfl (Qms rfl rfl (Qmi rfl rfl (zy (zj rfl rfl) (zy (Qt_indexR rfl rfl (by omega) (by simp; omega)) (zy (Qt_loadR (.int .u8 (l[8 + i].toNat : Int)) rfl (bytes_get l (8 + i) (by omega))) ?_))))))))))
  have hby := hashAt_get (l := l) hi (by omega)
  rw [hby]
  refine zy (zf 5 rfl rfl) (zy (Qt_indexAddr_arr (sz := 1) rfl rfl Tryz.underlying32 rfl rfl (by omega) (by omega)) ?_)
  have hput : Put ((MsgV.mk (be l 0 1) (be l (0 + 1) 1) (be l (0 + 1 + 1) 2) (be l (0 + 1 + 1 + 2) 2) (be l (0 + 1 + 1 + 2 + 2) 2) (hvec (hashAt l) i) ⟨none, 0, []⟩ ⟨none, 0, []⟩)).cells (5 + (i : Int).toNat * 1) (.int .u8 ((hashAt l)[i].toNat : Int)) ((MsgV.mk (be l 0 1) (be l (0 + 1) 1) (be l (0 + 1 + 1) 2) (be l (0 + 1 + 1 + 2) 2) (be l (0 + 1 + 1 + 2 + 2) 2) (hvec (hashAt l) (i + 1)) ⟨none, 0, []⟩ ⟨none, 0, []⟩)).cells := by
   have h1 := MsgV.putHash (MsgV.mk (be l 0 1) (be l (0 + 1) 1) (be l (0 + 1 + 1) 2) (be l (0 + 1 + 1 + 2) 2) (be l (0 + 1 + 1 + 2 + 2) 2) (hvec (hashAt l) i) ⟨none, 0, []⟩ ⟨none, 0, []⟩) i hi (hashAt l)[i]
   rw [show ({ (MsgV.mk (be l 0 1) (be l (0 + 1) 1) (be l (0 + 1 + 1) 2) (be l (0 + 1 + 1 + 2) 2) (be l (0 + 1 + 1 + 2 + 2) 2) (hvec (hashAt l) i) ⟨none, 0, []⟩ ⟨none, 0, []⟩) with hash := (hvec (hashAt l) i).set i (hashAt l)[i] } : MsgV) = (MsgV.mk (be l 0 1) (be l (0 + 1) 1) (be l (0 + 1 + 1) 2) (be l (0 + 1 + 1 + 2) 2) (be l (0 + 1 + 1 + 2 + 2) 2) (hvec (hashAt l) (i + 1)) ⟨none, 0, []⟩ ⟨none, 0, []⟩) from by rw [← hvec_set (hashAt l) i hi]] at h1
   rw [show 5 + (i : Int).toNat * 1 = 5 + i from by simp]; exact h1
  refine zN (Ef_store1 (.int .u8 _) rfl rfl (zz (X_block (zx (zR (Qmi rfl rfl (zy (zj rfl rfl) (Qai rfl rfl (zz ?_)))))))))
  apply X_loop
  case ha => exact zA
  case hI => exact ⟨i + 1, rfl, rfl, by omega⟩
  case hm => exact by show 32 - (i + 1 : Int).toNat < 32 - (i : Int).toNat; omega
  case hH => exact SB
 have p43 := cL h43
 have hi : i = 32 := by omega
 subst hi
 rw [hvec_all]
 refine zY (zG (zW (zE (zx (T2 (Qms rfl rfl (ze rfl (zc (rReadText_c (k := 8 + 32) (m := 65536) (by omega) hl (by decide) (by decide)) rfl (fun x55 => ?_)))))))))
 rw [show rdText (l.drop (8 + 32)) 65536 = bodyR l from rfl]
 have hbb : (bodyR l).2.2 ≤ (l.drop (8 + 32)).length := (rdText_bound (l.drop (8 + 32)) 65536).1
 rw [List.length_drop] at hbb
 have hkb : 8 + 32 + (bodyR l).2.2 ≤ l.length := by omega
 refine ze rfl (Ef_allocN (fun b5 => ?_))
 refine zN (zs rfl rfl (TX (zS (T2 (zy (zf 3 rfl rfl) (zy (zl rfl) (zy (Qt_neq rfl rfl) (TX (zC rfl (fun h58 => ?_) (fun h58 => ?_))))))))))
 ·
  have p58 := cL h58
  refine T2 (zy (zf 3 rfl rfl) (zy (zl rfl) (zy (zw [(1, (.int .i64 _))] rfl) (zN (zs rfl rfl (TX (zQ (zr ?_))))))))
  have e : getM l = ((bodyR l).1, .zero) := by have hx := msgR_body h40 (by omega); rw [getM_bad h65 (by rw [hx]; first | assumption | decide | omega), hx]
  exact zX (MsgV.zero, []) [_] Tryz.results114 ⟨⟨_, rfl, res_cellN rfl⟩, trivial⟩ (by rw [e]; rfl) (fun w hw => (St.datMsgZero (SB w hw : St w0 H w)).addPure (by rw [e]; rfl))
 have p58 := cL h58
 have hbz : (bodyR l).1 = 0 := by omega
 refine S4 (zy (zf 1 rfl rfl) (zy (zl rfl) (zy (zf 37 rfl rfl) (zN (Ef_store1 (.slice _ _ _) rfl rfl (T4 (zy (zf 2 rfl rfl) (zy (zl rfl) (zy (Qt_val (zj rfl rfl) (congrArg (Value.int .i64) (show (40 : Int) + ((bodyR l).2.2 : Int) = ((8 + 32 + (bodyR l).2.2 : Nat) : Int) from by omega))) (Qai rfl rfl (T4 ?_)))))))))))
 refine Qms rfl rfl (Qmi rfl rfl (ze rfl (zc (rReadCount_c (k := 8 + 32 + (bodyR l).2.2) (m := 16) hkb hl (by decide) (by decide)) rfl (fun x70 => ?_))))
 have hcb := (rdCount_bound (l.drop (8 + 32 + (bodyR l).2.2)) 16).2.1
 rw [List.length_drop] at hcb
 refine ze rfl (Ef_allocN (fun b7 => ?_))
 refine zN (zs rfl rfl (TX (zS (T2 (zy (zf 3 rfl rfl) (zy (zl rfl) (zy (Qt_neq rfl rfl) (TX (zC rfl (fun h73 => ?_) (fun h73 => ?_))))))))))
 ·
  have p73 := cL h73
  refine T2 (zy (zf 3 rfl rfl) (zy (zl rfl) (zy (zw [(1, (.int .i64 _))] rfl) (zN (zs rfl rfl (TX (zQ (zr ?_))))))))
  have e : getM l = ((rdCount (l.drop (8 + 32 + (bodyR l).2.2)) 16).1, .zero) := by have hy : (restR l).1 = (rdCount (l.drop (8 + 32 + (bodyR l).2.2)) 16).1 := rpt_err (by omega); have hx := msgR_rest h40 hbz (by rw [hy]; omega); rw [getM_bad h65 (by rw [hx]; show (restR l).1 ≠ 0; rw [hy]; omega), hx, hy]
  exact zX (MsgV.zero, []) [_] Tryz.results114 ⟨⟨_, rfl, res_cellN rfl⟩, trivial⟩ (by rw [e]; rfl) (fun w hw => (St.datMsgZero (SB w hw : St w0 H w)).addPure (by rw [e]; rfl))
 have p73 := cL h73
 have hcz : (rdCount (l.drop (8 + 32 + (bodyR l).2.2)) 16).1 = 0 := by omega
 have hn16 : (rdCount (l.drop (8 + 32 + (bodyR l).2.2)) 16).2.1 ≤ 16 := by have := (rdCount_ok hcz).2.1; rw [← (rdCount_ok hcz).1] at this; omega
 refine S4 (Qmi rfl rfl (zy (zf 2 rfl rfl) (zy (zl rfl) (zy (Qt_val (zj rfl rfl) (congrArg (Value.int .i64) (show ((8 + 32 + (bodyR l).2.2 : Nat) : Int) + ((rdCount (l.drop (8 + 32 + (bodyR l).2.2)) 16).2.2 : Int) = (((8 + 32 + (bodyR l).2.2 + (rdCount (l.drop (8 + 32 + (bodyR l).2.2)) 16).2.2) : Nat) : Int) from by omega))) (Qai rfl rfl (TX (zS (T2 (Qai rfl rfl (TX (zB ?_)))))))))))
 refine T_loop [6, 8, 9, 81, 82, 83, 84, 85, 86, 87, 88, 89, 90, 91, 92, 93, 94, 95, 96, 97, 98, 99, 100, 101, 102, 103, 104, 105, 106, 107] [8, 6] (fun us H' => ∃ (i : Nat) (q : Nat) (a : Option Addr) (c : Nat) (ts : List BS) (fp : List Nat), us = [.int .i64 (i : Int), .int .i64 (q : Int)] ∧ row (.slice a (ts).length c) 33 1 ((ts).map BS.val) :: eachA fp ts :: row (.slice x55.a (bodyR l).2.1.length x55.c) 5 1 (bytesV (bodyR l).2.1) :: blk b3 (.cells (MsgV.mk (be l 0 1) (be l (0 + 1) 1) (be l (0 + 1 + 1) 2) (be l (0 + 1 + 1 + 2) 2) (be l (0 + 1 + 1 + 2 + 2) 2) (hashAt l) ⟨x55.a, x55.c, (bodyR l).2.1⟩ ⟨a, c, ts⟩).cells 82 (0, 0)) :: blk b2 (.cells (MGotV.mk MsgV.zero 0).cells 98 (0, 0)) :: blk b5 (.cells (GotV.mk 0 ⟨x55.a, x55.c, (bodyR l).2.1⟩ ((bodyR l).2.2 : Int) (bodyR l).1).cells 123 (0, 0)) :: blk b7 (.cells (GotV.mk ((rdCount (l.drop (8 + 32 + (bodyR l).2.2)) 16).2.1 : Int) ⟨none, 0, []⟩ ((rdCount (l.drop (8 + 32 + (bodyR l).2.2)) 16).2.2 : Int) (rdCount (l.drop (8 + 32 + (bodyR l).2.2)) 16).1).cells 123 (0, 0)) :: H = H' ∧ i ≤ (rdCount (l.drop (8 + 32 + (bodyR l).2.2)) 16).2.1 ∧ (PrsAt l (rdCount (l.drop (8 + 32 + (bodyR l).2.2)) 16).2.1 i ((rdCount (l.drop (8 + 32 + (bodyR l).2.2)) 16).2.1 - i) (ts.map BS.l) (8 + 32 + (bodyR l).2.2 + (rdCount (l.drop (8 + 32 + (bodyR l).2.2)) 16).2.2) q) ∧ (q ≤ l.length) ∧ ((8 + 32 + (bodyR l).2.2 + (rdCount (l.drop (8 + 32 + (bodyR l).2.2)) 16).2.2) ≤ q) ∧ (ts.length = i)) (fun us => match us with | .int _ i :: _ => (rdCount (l.drop (8 + 32 + (bodyR l).2.2)) 16).2.1 - i.toNat | _ => 0) ⟨0, (8 + 32 + (bodyR l).2.2 + (rdCount (l.drop (8 + 32 + (bodyR l).2.2)) 16).2.2), none, 0, [], [], rfl, rfl, by omega, PrsAt.start, by omega, Nat.le_refl _, rfl⟩ (fun w hw => by
  have h0 : St w0 (row (.slice x55.a (bodyR l).2.1.length x55.c) 5 1 (bytesV (bodyR l).2.1) :: blk b3 (.cells (MsgV.mk (be l 0 1) (be l (0 + 1) 1) (be l (0 + 1 + 1) 2) (be l (0 + 1 + 1 + 2) 2) (be l (0 + 1 + 1 + 2 + 2) 2) (hashAt l) ⟨x55.a, x55.c, (bodyR l).2.1⟩ ⟨none, 0, []⟩).cells 82 (0, 0)) :: blk b2 (.cells (MGotV.mk MsgV.zero 0).cells 98 (0, 0)) :: blk b5 (.cells (GotV.mk 0 ⟨x55.a, x55.c, (bodyR l).2.1⟩ ((bodyR l).2.2 : Int) (bodyR l).1).cells 123 (0, 0)) :: blk b7 (.cells (GotV.mk ((rdCount (l.drop (8 + 32 + (bodyR l).2.2)) 16).2.1 : Int) ⟨none, 0, []⟩ ((rdCount (l.drop (8 + 32 + (bodyR l).2.2)) 16).2.2 : Int) (rdCount (l.drop (8 + 32 + (bodyR l).2.2)) 16).1).cells 123 (0, 0)) :: H) w := SB w hw
  exact (h0.eachNil).addNil 33 1) ?_
 rintro τ1 _ _  ⟨i, q, a, c, ts, fp, rfl, rfl, hi0, hp, hql, hkq, hll⟩ _
 refine zS (T2 (Qmi rfl rfl (zy (zf 0 rfl rfl) (zy (zl rfl) (zy (Qt_conv_i64 rfl rfl Tryz.underlying3 (by omega) (by omega)) (zy (Qt_lss rfl rfl) (TX (zC rfl (fun h85 => ?_) (fun h85 => ?_)))))))))
 ·
  have p85 := cL h85
  have hik : i < (rdCount (l.drop (8 + 32 + (bodyR l).2.2)) 16).2.1 := by omega
  obtain ⟨r, hr2⟩ : ∃ r, (rdCount (l.drop (8 + 32 + (bodyR l).2.2)) 16).2.1 - i = r + 1 := ⟨(rdCount (l.drop (8 + 32 + (bodyR l).2.2)) 16).2.1 - i - 1, by omega⟩
  rw [hr2] at hp
  refine zk (zx (zS (zB (T2 (Qms rfl rfl (Qmi rfl rfl (ze rfl (zc (rReadText_c (k := q) (m := 65536) hql hl (by decide) (by decide)) rfl (fun x90 => ?_)))))))))
  have htb := (rdText_bound (l.drop q) 65536).1
  rw [List.length_drop] at htb
  refine ze rfl (Ef_allocN (fun b9 => ?_))
  refine zN (zs rfl rfl (TX (zS (T2 (zy (zf 3 rfl rfl) (zy (zl rfl) (zy (Qt_neq rfl rfl) (TX (zC rfl (fun h93 => ?_) (fun h93 => ?_))))))))))
  ·
   have p93 := cL h93
   refine T2 (zy (zf 3 rfl rfl) (zy (zl rfl) (zy (zw [(1, (.int .i64 _))] rfl) (zN (zs rfl rfl (TX (zQ (zr (zb (zr (X_loop_ret (zb (zr ?_)))))))))))))
   have e : getM l = ((rdText (l.drop q) 65536).1, .zero) := by have hb := hp.bad (by omega : (rdText (l.drop q) 65536).1 ≠ 0); have hy : (restR l).1 = (rdText (l.drop q) 65536).1 := (by rw [restR, partsR, if_neg (by omega), if_pos (by rw [List.drop_drop, hb]; omega), List.drop_drop, hb]); have hx := msgR_rest h40 hbz (by rw [hy]; omega); rw [getM_bad h65 (by rw [hx]; show (restR l).1 ≠ 0; rw [hy]; omega), hx, hy]
   exact zX (MsgV.zero, []) [_] Tryz.results114 ⟨⟨_, rfl, res_cellN rfl⟩, trivial⟩ (by rw [e]; rfl) (fun w hw => (St.datMsgZero (SB w hw : St w0 H w)).addPure (by rw [e]; rfl))
  have p93 := cL h93
  have het : (rdText (l.drop q) 65536).1 = 0 := by omega
  refine S4 (zy (zf 38 rfl rfl) (zy (zl rfl) (zy (zf 1 rfl rfl) (zy (zl rfl) (ze rfl (Ef_slice1 (v := .slice _ _ _) rfl (fun a101 c101 => ?_)))))))
  refine ze rfl (Ef_appendP (sv := .slice _ _ _) (xv := .slice _ _ _) ⟨x90.a, x90.c, (rdText (l.drop q) 65536).2.1⟩ rfl rfl (by omega) rfl (fun a102 c102 => ?_))
  refine zy (zf 38 rfl rfl) (zN (Ef_store1 (.slice _ _ _) rfl rfl (TX (zR (Qmi rfl rfl (zy (zf 2 rfl rfl) (zy (zl rfl) (zy (zj rfl rfl) (Qai rfl rfl (zz (X_block (zx (zR (Qmi rfl rfl (zy (zj rfl rfl) (Qai rfl rfl (zz ?_)))))))))))))))))
  apply X_loop
  case ha => exact zA
  case hI => exact ⟨i + 1, q + (rdText (l.drop q) 65536).2.2, a102, c102, ts ++ [⟨x90.a, x90.c, (rdText (l.drop q) 65536).2.1⟩], rowFp (.slice x90.a (rdText (l.drop q) 65536).2.1.length x90.c) ++ fp, rfl, rfl, by omega, by rw [show (rdCount (l.drop (8 + 32 + (bodyR l).2.2)) 16).2.1 - (i + 1) = r from by omega, List.map_append]; exact hp.step hkq het, by omega, by omega, by simp [hll]⟩
  case hm => exact by show (rdCount (l.drop (8 + 32 + (bodyR l).2.2)) 16).2.1 - (i + 1 : Int).toNat < (rdCount (l.drop (8 + 32 + (bodyR l).2.2)) 16).2.1 - (i : Int).toNat; omega
  case hH => exact fun w hw => eachUnder (SB w hw : St w0 (row (.slice a102 (ts ++ [(⟨x90.a, x90.c, (rdText (l.drop q) 65536).2.1⟩ : BS)]).length c102) 33 1 ((ts ++ [(⟨x90.a, x90.c, (rdText (l.drop q) 65536).2.1⟩ : BS)]).map BS.val) :: row (BS.val ⟨x90.a, x90.c, (rdText (l.drop q) 65536).2.1⟩) 5 1 (bytesV (BS.l ⟨x90.a, x90.c, (rdText (l.drop q) 65536).2.1⟩)) :: eachA fp ts :: row (.slice x55.a (bodyR l).2.1.length x55.c) 5 1 (bytesV (bodyR l).2.1) :: blk b3 (.cells (MsgV.mk (be l 0 1) (be l (0 + 1) 1) (be l (0 + 1 + 1) 2) (be l (0 + 1 + 1 + 2) 2) (be l (0 + 1 + 1 + 2 + 2) 2) (hashAt l) ⟨x55.a, x55.c, (bodyR l).2.1⟩ ⟨a102, c102, ts ++ [⟨x90.a, x90.c, (rdText (l.drop q) 65536).2.1⟩]⟩).cells 82 (0, 0)) :: blk b2 (.cells (MGotV.mk MsgV.zero 0).cells 98 (0, 0)) :: blk b5 (.cells (GotV.mk 0 ⟨x55.a, x55.c, (bodyR l).2.1⟩ ((bodyR l).2.2 : Int) (bodyR l).1).cells 123 (0, 0)) :: blk b7 (.cells (GotV.mk ((rdCount (l.drop (8 + 32 + (bodyR l).2.2)) 16).2.1 : Int) ⟨none, 0, []⟩ ((rdCount (l.drop (8 + 32 + (bodyR l).2.2)) 16).2.2 : Int) (rdCount (l.drop (8 + 32 + (bodyR l).2.2)) 16).1).cells 123 (0, 0)) :: H) w)
 have p85 := cL h85
 have hi : i = (rdCount (l.drop (8 + 32 + (bodyR l).2.2)) 16).2.1 := by omega
 rw [hi, Nat.sub_self] at hp
 have hd := hp.done
 have hrx : restR l = (0, ts.map BS.l, (rdCount (l.drop (8 + 32 + (bodyR l).2.2)) 16).2.2 + (q - (8 + 32 + (bodyR l).2.2 + (rdCount (l.drop (8 + 32 + (bodyR l).2.2)) 16).2.2))) := by rw [restR, partsR, if_neg (by omega), List.drop_drop, hd]; rfl
 have hrz : (restR l).1 = 0 := by rw [hrx]
 have hqe : q = 8 + 32 + (bodyR l).2.2 + (restR l).2.2 := by rw [hrx]; show q = 8 + 32 + (bodyR l).2.2 + ((rdCount (l.drop (8 + 32 + (bodyR l).2.2)) 16).2.2 + (q - (8 + 32 + (bodyR l).2.2 + (rdCount (l.drop (8 + 32 + (bodyR l).2.2)) 16).2.2))); omega
 have h411 : (restR l).2.1 = ts.map BS.l := by rw [hrx]
 have hab : ((MsgV.mk (be l 0 1) (be l (0 + 1) 1) (be l (0 + 1 + 1) 2) (be l (0 + 1 + 1 + 2) 2) (be l (0 + 1 + 1 + 2 + 2) 2) (hashAt l) ⟨x55.a, x55.c, (bodyR l).2.1⟩ ⟨a, c, ts⟩)).abs = readM l := by simp only [MsgV.abs, readM, h411]
 refine zY (zG (zW (zE (zx (zS (T2 (Qmi rfl rfl (Qms rfl rfl (zy (zL rfl Tryz.underlying33) (zy (Qt_lss rfl rfl) (TX (zC rfl (fun h111 => ?_) (fun h111 => ?_)))))))))))))
 ·
  have p111 := cL h111
  refine T2 (zy (zw [(1, (.int .i64 _))] rfl) (zN (zs rfl rfl (TX (zQ (zr ?_))))))
  have e : getM l = (2, .zero) := by have hx := msgR_more h40 hbz hrz (by omega); rw [getM_bad h65 (by rw [hx]; first | assumption | decide | omega), hx]
  exact zX (MsgV.zero, []) [_] Tryz.results114 ⟨⟨_, rfl, res_cellN rfl⟩, trivial⟩ (by rw [e]; rfl) (fun w hw => (St.datMsgZero (SB w hw : St w0 H w)).addPure (by rw [e]; rfl))
 have p111 := cL h111
 have hm : ¬ 8 + 32 + (bodyR l).2.2 + (restR l).2.2 < l.length := by omega
 refine zk (zx (zS (T2 (zy (zn rfl rfl) (ze rfl (zc (rNumbers_c (m := (MsgV.mk (be l 0 1) (be l (0 + 1) 1) (be l (0 + 1 + 1) 2) (be l (0 + 1 + 1 + 2) 2) (be l (0 + 1 + 1 + 2 + 2) 2) (hashAt l) ⟨x55.a, x55.c, (bodyR l).2.1⟩ ⟨a, c, ts⟩))) rfl (fun x114 => ?_)))))))
 refine zy (Qt_not rfl) (TX (zC rfl (fun h115 => ?_) (fun h115 => ?_)))
 ·
  have p115 := cL h115
  refine T2 (zy (zw [(1, (.int .i64 _))] rfl) (zN (zs rfl rfl (TX (zQ (zr ?_))))))
  have e : getM l = (15, .zero) := by have hx : msgR l = (15, .zero) := (by rw [msgR_end h40 hbz hrz hm, if_neg (by rw [← hab]; simpa using h115)]); rw [getM_bad h65 (by rw [hx]; decide), hx]
  exact zX (MsgV.zero, []) [_] Tryz.results114 ⟨⟨_, rfl, res_cellN rfl⟩, trivial⟩ (by rw [e]; rfl) (fun w hw => (St.datMsgZero (SB w hw : St w0 H w)).addPure (by rw [e]; rfl))
 have p115 := cL h115
 refine S4 (zy (zn rfl rfl) (zy (zw [(0, (.agg _))] rfl) (zN (zs rfl rfl (TX (zQ ?_))))))
 have hx : msgR l = (0, ((MsgV.mk (be l 0 1) (be l (0 + 1) 1) (be l (0 + 1 + 1) 2) (be l (0 + 1 + 1 + 2) 2) (be l (0 + 1 + 1 + 2 + 2) 2) (hashAt l) ⟨x55.a, x55.c, (bodyR l).2.1⟩ ⟨a, c, ts⟩)).abs) := by rw [msgR_end h40 hbz hrz hm, hab, if_pos (by rw [← hab]; simpa using h115)]
 have e : getM l = (0, ((MsgV.mk (be l 0 1) (be l (0 + 1) 1) (be l (0 + 1 + 1) 2) (be l (0 + 1 + 1 + 2) 2) (be l (0 + 1 + 1 + 2 + 2) 2) (hashAt l) ⟨x55.a, x55.c, (bodyR l).2.1⟩ ⟨a, c, ts⟩)).abs) := getM_good h65 hx
 refine X_conv (fun w hw => St.datMsg (m := (MsgV.mk (be l 0 1) (be l (0 + 1) 1) (be l (0 + 1 + 1) 2) (be l (0 + 1 + 1 + 2) 2) (be l (0 + 1 + 1 + 2 + 2) 2) (hashAt l) ⟨x55.a, x55.c, (bodyR l).2.1⟩ ⟨a, c, ts⟩)) (fp := fp) (e := 33) (e2 := 5) (H := blk b2 (.cells (MGotV.mk (MsgV.mk (be l 0 1) (be l (0 + 1) 1) (be l (0 + 1 + 1) 2) (be l (0 + 1 + 1 + 2) 2) (be l (0 + 1 + 1 + 2 + 2) 2) (hashAt l) ⟨x55.a, x55.c, (bodyR l).2.1⟩ ⟨a, c, ts⟩) 0).cells 98 (0, 0)) :: H) (SB w hw)) (fun fp2 => ?_)
 exact zX ((MsgV.mk (be l 0 1) (be l (0 + 1) 1) (be l (0 + 1 + 1) 2) (be l (0 + 1 + 1 + 2) 2) (be l (0 + 1 + 1 + 2 + 2) 2) (hashAt l) ⟨x55.a, x55.c, (bodyR l).2.1⟩ ⟨a, c, ts⟩), fp2) [_] Tryz.results114 ⟨⟨_, rfl, res_cellN rfl⟩, trivial⟩ (by rw [e]; rfl) (fun w hw => (SB w hw : St w0 (dat fp2 (Deep.leads (MsgV.mk (be l 0 1) (be l (0 + 1) 1) (be l (0 + 1 + 1) 2) (be l (0 + 1 + 1 + 2) 2) (be l (0 + 1 + 1 + 2 + 2) 2) (hashAt l) ⟨x55.a, x55.c, (bodyR l).2.1⟩ ⟨a, c, ts⟩)) :: H) w).addPure (by rw [e]))
end
section
open Go.RowKit Go.Sx
set_option maxRecDepth 100000
theorem getM_err {l : List UInt8} (h : (getM l).1 ≠ 0) : (getM l).2 = .zero := by
 unfold getM at h ⊢
 split
 · rfl
 · split
   · rfl
   · rename_i h1 h2; rw [if_neg h1, if_neg h2] at h; exact absurd h h2
theorem tag_eq {t : Vector UInt8 32} {l : List UInt8} (hl : l.length = 32) : t.toList = l ↔ t = vec32 l := by
 constructor
 · intro h; rw [← h, vec32_toList]
 · intro h; rw [h, vec32_list l hl]
attribute [local irreducible] getM tagOf openK
set_option maxHeartbeats 1000000 in
theorem rOpen_c {w0 : World} {H : List SA} {k : KeysV} [rk : RdC w0 H (.slice k.seals.a k.seals.ls.length k.seals.c) 1 (k.seals.ls.map BS.val)] [rke : RdE w0 H k.seals.ls] (hkl : ∀ x ∈ k.seals.ls, x.l.length ≤ 4294967000) {a : Option Addr} {l : List UInt8} {c : Nat} [hr : RdB w0 H (.slice a l.length c) l] (hl : l.length ≤ 4294960000) :
 CT Tryz.prog w0 (H) 71 [.agg k.cells, .slice a l.length c] (α := MsgV × List Nat) (fun y => .agg (MGotV.mk y.1 (openK (k.seals.ls.map BS.l) l).1).cells) (fun y => pu (y.1.abs = (openK (k.seals.ls.map BS.l) l).2) :: dat y.2 (Deep.leads y.1) :: H) := by
 refine CT_intro Tryz.func71 rfl Tryz.ntmps71 rfl ?_
 refine T2 ?_
 refine ze rfl (Ef_boxN rfl (fun b2 => ?_))
 refine ze rfl (Ef_allocN (fun b4 => ?_))
 refine TX (zS (T2 ?_))
 refine Qms rfl rfl (zq (zL rfl Tryz.underlying33) rfl (zq (Qt_lss rfl rfl) rfl (TX (zC rfl (fun h10 => ?_) (fun h10 => ?_)))))
 ·
  have p10 := h10
  try simp only [dp] at p10
  refine T2 (zq (Qt_build [(1, (.int .i64 _))] rfl (by kernel_rfl)) rfl ?_)
  refine zN (zs rfl rfl (?_))
  refine TX (zQ (zr ?_))
  have e := openK_1 (K := (k.seals.ls.map BS.l)) (l := l) (by omega)
  exact zX (MsgV.zero, []) [_] Tryz.results71 ⟨⟨_, rfl, res_cellN rfl⟩, trivial⟩ (by rw [e]; rfl) (fun w hw => (St.datMsgZero (SB w hw : St w0 H w)).addPure (by rw [e]; rfl))
 have p10 := h10
 try simp only [dp] at p10
 have h32 : ¬ l.length < 32 := by omega
 refine S4 (Qms rfl rfl (zq (zL rfl Tryz.underlying33) rfl (zq (Qt_sub rfl rfl (by omega) (by omega)) rfl (Qai rfl rfl (T4 ?_)))))
 refine Qms rfl rfl (Qmi rfl rfl (zq (Qt_sliceB_h (l.length - 32) rfl (by refine congrArg (Value.int .i64) ?_; omega) (by omega)) rfl ?_))
 refine ze rfl (zc (rGetM_c (l := (l.take (l.length - 32))) (by simp; omega)) rfl (fun x18 => ?_))
 refine TL_pure (fun h18 => ?_)
 have hfrm : x18.1.frm = (getM (l.take (l.length - 32))).2.frm := congrArg MsgD.frm h18
 refine ze rfl (Ef_allocN (fun b6 => ?_))
 refine zN (zs rfl rfl (?_))
 refine TX (zS (T2 ?_))
 refine zq (zf 39 rfl rfl) rfl (zq (zl rfl) rfl (zq (Qt_neq rfl rfl) rfl (TX (zC rfl (fun h21 => ?_) (fun h21 => ?_)))))
 ·
  have p21 := h21
  try simp only [dp] at p21
  refine T2 (zq (zn rfl rfl) rfl ?_)
  refine zN (zs rfl rfl (?_))
  refine TX (zQ (zr ?_))
  have e := openK_e (K := (k.seals.ls.map BS.l)) h32 (by omega)
  exact zX x18 [_] Tryz.results71 ⟨⟨_, rfl, res_cellN rfl⟩, trivial⟩ (by rw [e]; first | rfl | (rw [hz]; rfl)) (fun w hw => (SB w hw : St w0 (dat x18.2 (Deep.leads x18.1) :: H) w).addPure (by rw [e]; exact h18.trans (getM_err (by omega))))
 have p21 := h21
 try simp only [dp] at p21
 have hz : (getM (l.take (l.length - 32))).1 = 0 := by omega
 refine zk (zx (zS (T2 ?_)))
 refine zq (zf 0 rfl rfl) rfl (zq (zf 1 rfl rfl) rfl (zq (zl rfl) rfl (zq (zf 0 rfl rfl) rfl (zq (zl rfl) rfl (zq (zL rfl Tryz.underlying28) rfl ?_)))))
 refine zq (Qt_geq rfl rfl) rfl (TX (zC rfl (fun h29 => ?_) (fun h29 => ?_)))
 ·
  have p29 := h29
  try simp only [dp] at p29
  refine T2 (zq (Qt_build [(1, (.int .i64 _))] rfl (by kernel_rfl)) rfl ?_)
  refine zN (zs rfl rfl (?_))
  refine TX (zQ (zr ?_))
  have e := openK_6 (K := (k.seals.ls.map BS.l)) h32 hz (by rw [List.length_map]; omega)
  exact zX (MsgV.zero, []) [_] Tryz.results71 ⟨⟨_, rfl, res_cellN rfl⟩, trivial⟩ (by rw [e]; rfl) (fun w hw => (St.datMsgZero (SB w hw : St w0 H w)).addPure (by rw [e]; rfl))
 have p29 := h29
 try simp only [dp] at p29
 have hfr := frm_range (getM_formed hz)
 have hlt : ¬ (k.seals.ls.length : Int) ≤ (getM (l.take (l.length - 32))).2.frm := by omega
 have hk : x18.1.frm.toNat < k.seals.ls.length := by omega
 have : RdB w0 H (.slice k.seals.ls[x18.1.frm.toNat].a k.seals.ls[x18.1.frm.toNat].l.length k.seals.ls[x18.1.frm.toNat].c) k.seals.ls[x18.1.frm.toNat].l := rke.get (List.getElem_mem hk)
 have hkl1 := hkl _ (List.getElem_mem hk)
 have ht := openK_t (K := (k.seals.ls.map BS.l)) h32 hz (by rw [List.length_map]; exact hlt)
 rw [← hfrm, keys_get hk] at ht
 refine zk (zx (zS ?_))
 refine T_drawF (blk b6 (.cells (MGotV.mk x18.1 (getM (l.take (l.length - 32))).1).cells 98 (0, 0)) :: blk b2 (.cells k.cells 40 (0, 0)) :: H) (by kernel_rfl) SB (DLF_q (i := 0) (by kernel_rfl) rfl (by kernel_rfl) (by kernel_rfl) (zf 0 rfl rfl) rfl (DLF_q (i := 1) (by kernel_rfl) rfl (by kernel_rfl) (by kernel_rfl) (zl rfl) rfl (DLF_q (i := 2) (by kernel_rfl) rfl (by kernel_rfl) (by kernel_rfl) (zf 0 rfl rfl) rfl (DLF_q (i := 3) (by kernel_rfl) rfl (by kernel_rfl) (by kernel_rfl) (zf 1 rfl rfl) rfl (DLF_q (i := 4) (by kernel_rfl) rfl (by kernel_rfl) (by kernel_rfl) (zl rfl) rfl ?_)))))
 refine DLF_q (i := 5) (by kernel_rfl) rfl (by kernel_rfl) (by kernel_rfl) (Qt_indexR rfl (show _ = Value.int .i64 x18.1.frm from rfl) (show 0 ≤ x18.1.frm by omega) (by show x18.1.frm < ((k.seals.ls.map BS.val).length : Int); rw [List.length_map]; omega)) rfl (DLF_q (i := 6) (by kernel_rfl) rfl (by kernel_rfl) (by kernel_rfl) (Qt_loadR (.slice _ _ _) rfl (vals_get _ _ hk)) rfl (DLF_q (i := 7) (by kernel_rfl) rfl (by kernel_rfl) (by kernel_rfl) (zm (.slice _ _ _) rfl) rfl (DLF_q (i := 8) (by kernel_rfl) rfl (by kernel_rfl) (by kernel_rfl) (zm (.int .i64 _) rfl) rfl (DLF_q (i := 9) (by kernel_rfl) rfl (by kernel_rfl) (by kernel_rfl) (Qt_sliceB_h (l.length - 32) rfl (by refine congrArg (Value.int .i64) ?_; omega) (by omega)) rfl ?_))))
 refine DLF_2 (i := 10) (j := 11) (by kernel_rfl) ?_ ?_
 ·
  refine DLS_e rfl rfl (zc (rTag_c (l := (l.take (l.length - 32))) (by omega) (by simp; omega)) rfl (fun x41 => ⟨SB, ?_⟩))
  obtain ⟨tv, htv⟩ : ∃ tv, tv = tagOf k.seals.ls[x18.1.frm.toNat].l (l.take (l.length - 32)) := ⟨_, rfl⟩
  rw [← htv]
  refine DLF_1 (i := 11) (by kernel_rfl) ?_
  refine DLS_e rfl rfl (Ef_allocN (fun b7 => ⟨SB, ?_⟩))
  refine DLF_1 (i := 12) (by kernel_rfl) ?_
  refine DLS_n rfl (zs rfl rfl (⟨SB, ?_⟩))
  refine DLF_nil (by kernel_rfl) ?_
  refine zx (zS (zS ?_))
  refine T_draw (blk b7 (.cells (hlist tv).toArray 32 (0, 0)) :: H) [(0, true), (2, true), (3, true), (4, true), (1, false), (5, false), (6, true)] (by kernel_rfl) (by kernel_rfl) rfl (by kernel_rfl) SB (fun hns0 => ?_)
  refine zd hns0 rfl (zn rfl rfl) rfl (zd hns0 rfl (zm (.slice _ _ _) rfl) rfl (zd hns0 rfl (zm (.int .i64 _) rfl) rfl (zd hns0 rfl (Qt_sliceB_l (l.length - 32) rfl (by refine congrArg (Value.int .i64) ?_; omega) (by omega)) rfl ?_)))
  refine DL_e rfl rfl (zc (rHash_c) rfl (fun x43 => ⟨SB, ?_⟩))
  refine DL_e rfl rfl (zc (same_c (by simp)) rfl (fun x47 => ⟨SB, ?_⟩))
  refine zd hns0 rfl (Qt_not rfl) rfl (DL_nil (zx (zC rfl (fun h48 => ?_) (fun h48 => ?_))))
  ·
   have p48 := h48
   try simp only [dp] at p48
   have hne : tv ≠ vec32 (l.drop (l.length - 32)) := fun h => by have h2 := (tag_eq (by rw [List.length_drop]; omega)).2 h; simp [h2] at h48
   rw [htv] at hne
   rw [if_pos hne] at ht
   refine T2 (zq (Qt_build [(1, (.int .i64 _))] rfl (by kernel_rfl)) rfl ?_)
   refine zN (zs rfl rfl (?_))
   refine TX (zQ (zr ?_))
   have e := ht
   exact zX (MsgV.zero, []) [_] Tryz.results71 ⟨⟨_, rfl, res_cellN rfl⟩, trivial⟩ (by rw [e]; rfl) (fun w hw => (St.datMsgZero (SB w hw : St w0 H w)).addPure (by rw [e]; rfl))
  have p48 := h48
  try simp only [dp] at p48
  have heq : tv = vec32 (l.drop (l.length - 32)) := (tag_eq (by rw [List.length_drop]; omega)).1 (by simpa using h48)
  rw [htv] at heq
  rw [if_neg (by rw [heq]; simp)] at ht
  refine S4 (zq (zn rfl rfl) rfl ?_)
  refine zN (zs rfl rfl (?_))
  refine TX (zQ ?_)
  have e := ht
  exact zX x18 [_] Tryz.results71 ⟨⟨_, rfl, res_cellN rfl⟩, trivial⟩ (by rw [e]; first | rfl | (rw [hz]; rfl)) (fun w hw => (SB w hw : St w0 (dat x18.2 (Deep.leads x18.1) :: H) w).addPure (by rw [e]; exact h18))
 refine DLS_e rfl rfl (Ef_allocN (fun b7 => ⟨SB, ?_⟩))
 refine DLF_1 (i := 10) (by kernel_rfl) ?_
 refine DLS_e rfl rfl (zc (rTag_c (l := (l.take (l.length - 32))) (by omega) (by simp; omega)) rfl (fun x41 => ⟨SB, ?_⟩))
 obtain ⟨tv, htv⟩ : ∃ tv, tv = tagOf k.seals.ls[x18.1.frm.toNat].l (l.take (l.length - 32)) := ⟨_, rfl⟩
 rw [← htv]
 refine DLF_1 (i := 12) (by kernel_rfl) ?_
 refine DLS_n rfl (zs rfl rfl (⟨SB, ?_⟩))
 refine DLF_nil (by kernel_rfl) ?_
 refine zx (zS (zS ?_))
 refine T_draw (blk b7 (.cells (hlist tv).toArray 32 (0, 0)) :: H) [(0, true), (2, true), (3, true), (4, true), (1, false), (5, false), (6, true)] (by kernel_rfl) (by kernel_rfl) rfl (by kernel_rfl) SB (fun hns1 => ?_)
 refine zd hns1 rfl (zn rfl rfl) rfl (zd hns1 rfl (zm (.slice _ _ _) rfl) rfl (zd hns1 rfl (zm (.int .i64 _) rfl) rfl (zd hns1 rfl (Qt_sliceB_l (l.length - 32) rfl (by refine congrArg (Value.int .i64) ?_; omega) (by omega)) rfl ?_)))
 refine DL_e rfl rfl (zc (rHash_c) rfl (fun x43 => ⟨SB, ?_⟩))
 refine DL_e rfl rfl (zc (same_c (by simp)) rfl (fun x47 => ⟨SB, ?_⟩))
 refine zd hns1 rfl (Qt_not rfl) rfl (DL_nil (zx (zC rfl (fun h48 => ?_) (fun h48 => ?_))))
 ·
  have p48 := h48
  try simp only [dp] at p48
  have hne : tv ≠ vec32 (l.drop (l.length - 32)) := fun h => by have h2 := (tag_eq (by rw [List.length_drop]; omega)).2 h; simp [h2] at h48
  rw [htv] at hne
  rw [if_pos hne] at ht
  refine T2 (zq (Qt_build [(1, (.int .i64 _))] rfl (by kernel_rfl)) rfl ?_)
  refine zN (zs rfl rfl (?_))
  refine TX (zQ (zr ?_))
  have e := ht
  exact zX (MsgV.zero, []) [_] Tryz.results71 ⟨⟨_, rfl, res_cellN rfl⟩, trivial⟩ (by rw [e]; rfl) (fun w hw => (St.datMsgZero (SB w hw : St w0 H w)).addPure (by rw [e]; rfl))
 have p48 := h48
 try simp only [dp] at p48
 have heq : tv = vec32 (l.drop (l.length - 32)) := (tag_eq (by rw [List.length_drop]; omega)).1 (by simpa using h48)
 rw [htv] at heq
 rw [if_neg (by rw [heq]; simp)] at ht
 refine S4 (zq (zn rfl rfl) rfl ?_)
 refine zN (zs rfl rfl (?_))
 refine TX (zQ ?_)
 have e := ht
 exact zX x18 [_] Tryz.results71 ⟨⟨_, rfl, res_cellN rfl⟩, trivial⟩ (by rw [e]; first | rfl | (rw [hz]; rfl)) (fun w hw => (SB w hw : St w0 (dat x18.2 (Deep.leads x18.1) :: H) w).addPure (by rw [e]; exact h18))
theorem rOpenF_c {w0 : World} {H : List SA} {sa : Option Addr} {sc : Nat} {ls : List BS} {rt : Sl} [rk : RdC w0 H (.slice sa ls.length sc) 1 (ls.map BS.val)] [rke : RdE w0 H ls] (hkl : ∀ x ∈ ls, x.l.length ≤ 4294967000) {a : Option Addr} {l : List UInt8} {c : Nat} [hr : RdB w0 H (.slice a l.length c) l] (hl : l.length ≤ 4294960000) :
 CT Tryz.prog w0 H 71 [.agg (KeysV.mk ⟨sa, sc, ls⟩ rt).cells, .slice a l.length c] (α := MsgV × List Nat) (fun y => .agg (MGotV.mk y.1 (openK (ls.map BS.l) l).1).cells) (fun y => pu (y.1.abs = (openK (ls.map BS.l) l).2) :: dat y.2 (Deep.leads y.1) :: H) :=
 rOpen_c (k := ⟨⟨sa, sc, ls⟩, rt⟩) (rk := rk) (rke := rke) hkl hl
set_option maxHeartbeats 1000000 in
theorem rOpenOf_c {w0 : World} {H : List SA} {num : Int} {mk : Nat} (hmk : mk < 65536) {sa : Option Addr} {sc : Nat} {ls : List BS} {rt : Sl} [rk : RdC w0 H (.slice sa ls.length sc) 1 (ls.map BS.val)] [rke : RdE w0 H ls] (hkl : ∀ x ∈ ls, x.l.length ≤ 4294967000) {a : Option Addr} {l : List UInt8} {c : Nat} [hr : RdB w0 H (.slice a l.length c) l] (hl : l.length ≤ 4294960000) :
 CT Tryz.prog w0 (H) 33 [.agg (KeysV.mk ⟨sa, sc, ls⟩ rt).cells, .agg (ViewV.mk num (mk : Int)).cells, .slice a l.length c] (α := MsgV × List Nat) (fun y => .agg (MGotV.mk y.1 (openOfK (ls.map BS.l) mk l).1).cells) (fun y => pu (y.1.abs = (openOfK (ls.map BS.l) mk l).2) :: dat y.2 (Deep.leads y.1) :: H) := by
 refine CT_intro Tryz.func33 rfl Tryz.ntmps33 rfl ?_
 refine T2 ?_
 refine ze rfl (Ef_boxN rfl (fun b3 => ?_))
 refine ze rfl (Ef_boxN rfl (fun b4 => ?_))
 refine ze rfl (Ef_allocN (fun b6 => ?_))
 refine T4 (zq (zn rfl rfl) rfl (Qms rfl rfl ?_))
 refine ze rfl (zc (rOpenF_c (sa := sa) (sc := sc) (ls := ls) (rt := rt) hkl hl) rfl (fun x10 => ?_))
 refine TL_pure (fun hx => ?_)
 have hfr : x10.1.frm = (openK (ls.map BS.l) l).2.frm := congrArg MsgD.frm hx
 refine ze rfl (Ef_allocN (fun b7 => ?_))
 refine zN (zs rfl rfl (?_))
 refine TX (zS (T2 ?_))
 refine zq (zf 39 rfl rfl) rfl (zq (zl rfl) rfl (zq (Qt_eql rfl rfl) rfl (Qmb rfl rfl ?_)))
 refine TL_split 14 rfl (fun h14 => ?_) (fun h14 => ?_)
 ·
  have p14 := h14
  try simp only [dp] at p14
  refine zt rfl rfl h14 (zq (zn rfl rfl) rfl (zt rfl rfl h14 (zq (zf 0 rfl rfl) rfl (zt rfl rfl h14 (zq (zf 1 rfl rfl) rfl ?_)))))
  refine zt rfl rfl h14 (zq (zl rfl) rfl (zt rfl rfl h14 ?_))
  refine ze rfl (zc (rHas_c (num := num) hmk) rfl (fun x19 => ?_))
  refine zt rfl rfl h14 (zq (Qt_not rfl) rfl (zq (zT (.bool _) rfl h14 rfl) rfl (TX (zC rfl (fun h21 => ?_) (fun h21 => ?_)))))
  ·
   have p21 := h21
   try simp only [dp] at p21
   refine T2 (zq (Qt_build [(1, (.int .i64 _))] rfl (by kernel_rfl)) rfl ?_)
   refine zN (zs rfl rfl (?_))
   refine TX (zQ (zr ?_))
   have e : openOfK (ls.map BS.l) mk l = (6, .zero) := if_pos ⟨by first | (simp_all; done) | (simp_all; omega), by rw [← hfr]; simp_all⟩
   exact zX (MsgV.zero, []) [_] Tryz.results33 ⟨⟨_, rfl, res_cellN rfl⟩, trivial⟩ (by rw [e]; rfl) (fun w hw => (St.datMsgZero (SB w hw : St w0 H w)).addPure (by rw [e]; rfl))
  have p21 := h21
  try simp only [dp] at p21
  refine S4 (zq (zn rfl rfl) rfl ?_)
  refine zN (zs rfl rfl (?_))
  refine TX (zQ ?_)
  have e : openOfK (ls.map BS.l) mk l = openK (ls.map BS.l) l := if_neg (by rintro ⟨h1, h2⟩; rw [← hfr] at h2; simp_all)
  exact zX x10 [_] Tryz.results33 ⟨⟨_, rfl, res_cellN rfl⟩, trivial⟩ (by rw [e]; rfl) (fun w hw => (SB w hw : St w0 (dat x10.2 (Deep.leads x10.1) :: H) w).addPure (by rw [e]; exact hx))
 have p14 := h14
 try simp only [dp] at p14
 refine zp rfl rfl h14 rfl (zp rfl rfl h14 rfl (zp rfl rfl h14 rfl (zp rfl rfl h14 rfl (zp rfl rfl h14 rfl (zp rfl rfl h14 rfl ?_)))))
 refine zq (zF (.bool _) rfl h14 rfl) rfl (TX (T_cond_false rfl rfl (S4 (zq (zn rfl rfl) rfl ?_))))
 refine zN (zs rfl rfl (?_))
 refine TX (zQ ?_)
 have e : openOfK (ls.map BS.l) mk l = openK (ls.map BS.l) l := if_neg (by rintro ⟨h1, h2⟩; rw [← hfr] at h2; simp_all)
 exact zX x10 [_] Tryz.results33 ⟨⟨_, rfl, res_cellN rfl⟩, trivial⟩ (by rw [e]; rfl) (fun w hw => (SB w hw : St w0 (dat x10.2 (Deep.leads x10.1) :: H) w).addPure (by rw [e]; exact hx))
end
section
open Go.RowKit Go.Sx
set_option maxRecDepth 100000
set_option maxHeartbeats 1000000
def cntI (K : List (List UInt8)) (num : Int) (mk : Nat) (m : MsgD) (l : List UInt8) : Int := if cntD num m (opn K mk l) = true then (opn K mk l).frm else -1
theorem cntI_eq {K : List (List UInt8)} {num : Int} {mk : Nat} {m : MsgD} {l : List UInt8} {i : Nat} : cntI K num mk m l = (i : Int) ↔ cntD num m (opn K mk l) = true ∧ (opn K mk l).frm = (i : Int) := by
 unfold cntI
 split
 · rename_i h; simp [h]
 · rename_i h
   constructor
   · intro h2; omega
   · intro h2; exact absurd h2.1 h
def votesI (K : List (List UInt8)) (num : Int) (mk : Nat) (m : MsgD) (P : List (List UInt8)) (i : Nat) : Bool := P.any fun l => decide (cntI K num mk m l = (i : Int))
theorem votesI_bit {K : List (List UInt8)} {num : Int} {mk : Nat} {m : MsgD} {P : List (List UInt8)} {i : Nat} : votesI K num mk m P i = (setD num m (P.map (opn K mk))).testBit i := by
 rw [Bool.eq_iff_iff, setD_bit, votesI, List.any_eq_true]
 constructor
 · rintro ⟨l, hl, hc⟩
   have := cntI_eq.1 (of_decide_eq_true hc)
   exact ⟨_, List.mem_map.2 ⟨l, hl, rfl⟩, this.1, by rw [this.2]; rfl⟩
 · rintro ⟨v, hv, hc, he⟩
   obtain ⟨l, hl, rfl⟩ := List.mem_map.1 hv
   exact ⟨l, hl, decide_eq_true (cntI_eq.2 ⟨hc, by have := opn_frm K mk l; omega⟩)⟩
theorem any_succ {α : Type} (p : α → Bool) (l : List α) (k : Nat) (hk : k < l.length) : (l.take (k + 1)).any p = ((l.take k).any p || p l[k]) := by rw [List.take_succ_eq_append_getElem hk, List.any_append]; simp
theorem any_full {α : Type} (p : α → Bool) (l : List α) (k : Nat) (h : (l.take k).any p = true) : l.any p = true := by
 obtain ⟨x, hx, hp⟩ := List.any_eq_true.1 h
 exact List.any_eq_true.2 ⟨x, List.mem_of_mem_take hx, hp⟩
theorem range_step {p : Nat → Bool} {k : Nat} : (List.range (k + 1)).filter p = (List.range k).filter p ++ (if p k = true then [k] else []) := by
 rw [List.range_succ, List.filter_append]
 congr 1
 simp only [List.filter_cons, List.filter_nil]
theorem range_le (p : Nat → Bool) (k : Nat) : ((List.range k).filter p).length ≤ k := by have := List.length_filter_le p (List.range k); simpa using this
attribute [local irreducible] openOfK openK getM tagOf popB cntI
theorem rCounts_c {w0 : World} {H : List SA} {num : Int} {mk : Nat} (hmk : mk < 65536) {sa : Option Addr} {sc : Nat} {ls : List BS} {rt : Sl} [rk : RdC w0 H (.slice sa ls.length sc) 1 (ls.map BS.val)] [rke : RdE w0 H ls] (hkl : ∀ x ∈ ls, x.l.length ≤ 4294967000) {m : MsgV} {a : Option Addr} {l : List UInt8} {c : Nat} [hr : RdB w0 H (.slice a l.length c) l] (hl : l.length ≤ 4294960000) :
 CT Tryz.prog w0 (H) 156 [.agg (KeysV.mk ⟨sa, sc, ls⟩ rt).cells, .agg (ViewV.mk num (mk : Int)).cells, .agg m.cells, .slice a l.length c] (α := Unit) (fun _ => .int .i64 (cntI (ls.map BS.l) num mk m.abs l)) (fun _ => H) := by
 refine CT_intro Tryz.func156 rfl Tryz.ntmps156 rfl (T2 (ze rfl (Ef_boxN rfl (fun b4 => ?_))))
 refine ze rfl (Ef_boxN rfl (fun b5 => ?_))
 refine ze rfl (Ef_boxN rfl (fun b6 => ?_))
 refine Qai rfl rfl (T4 (zy (zn rfl rfl) (zy (zn rfl rfl) (Qms rfl rfl (ze rfl (zc (rOpenOf_c (num := num) hmk (sa := sa) (sc := sc) (ls := ls) (rt := rt) hkl hl) rfl (fun x14 => ?_)))))))
 refine TL_pure (fun h14 => ?_)
 refine ze rfl (Ef_allocN (fun b9 => ?_))
 refine zN (zs rfl rfl (T4 (zy (zf 0 rfl rfl) (zy (zn rfl rfl) (ze rfl (Ef_allocN (fun b10 => ?_)))))))
 refine zN (zs rfl rfl (TX (zS (T2 (zy (zf 39 rfl rfl) (zy (zl rfl) (zy (Qt_neq rfl rfl) (Qmb rfl rfl (TL_split 20 rfl (fun h20 => ?_) (fun h20 => ?_))))))))))
 ·
  have p20 := cL h20
  refine zp rfl rfl h20 rfl (zp rfl rfl h20 rfl (zp rfl rfl h20 rfl (zp rfl rfl h20 rfl (zp rfl rfl h20 rfl (zy (zT (.bool _) rfl h20 rfl) (Qmb rfl rfl (zo (zo (zo (zo (zo (zy (zT (.bool _) rfl rfl rfl) (Qmb rfl rfl (zo (zo (zo (zo ?_)))))))))))))))))
  refine zo (zy (zT (.bool _) rfl rfl rfl) (Qmb rfl rfl (zo (zo (zo (zo (zo (zy (zT (.bool _) rfl rfl rfl) (Qmb rfl rfl (zo (zo (zo (zo (zo (zy (zT (.bool _) rfl rfl rfl) (Qmb rfl rfl (zo ?_)))))))))))))))))
  refine zo (zo (zo (zo (zy (zT (.bool _) rfl rfl rfl) (TX (T_cond_true rfl rfl (T2 (Qai rfl rfl (TX (zQ (zr ?_)))))))))))
  have hav : x14.1.abs = opn (ls.map BS.l) mk l := h14
  have e : cntI (ls.map BS.l) num mk m.abs l = -1 := by
   unfold cntI
   rw [if_neg]
   rw [← hav]
   intro hc
   unfold cntD at hc
   replace hc := of_decide_eq_true hc
   simp only [MsgV.abs] at hc
   have hz : (openOfK (ls.map BS.l) mk l).1 = 0 := by
    by_cases hz : (openOfK (ls.map BS.l) mk l).1 = 0
    · exact hz
    · have h0 := congrArg MsgD.kind (hav.trans (opn_zero hz))
      exact absurd h0 hc.2.1
   simp_all
  exact zX () [_] Tryz.results156 ⟨rfl, trivial⟩ (by rw [e]; rfl) SB
 have p20 := cL h20
 refine zt rfl rfl h20 (zy (zf 2 rfl rfl) (zt rfl rfl h20 (zy (zl rfl) (zt rfl rfl h20 (zy (zf 0 rfl rfl) (zt rfl rfl h20 (zy (zl rfl) (zt rfl rfl h20 (zy (Qt_neq rfl rfl) (zy (zF (.bool _) rfl h20 rfl) (Qmb rfl rfl ?_)))))))))))
 refine TL_split 27 rfl (fun h27 => ?_) (fun h27 => ?_)
 ·
  have p27 := cL h27
  refine zp rfl rfl h27 rfl (zp rfl rfl h27 rfl (zp rfl rfl h27 rfl (zp rfl rfl h27 rfl (zp rfl rfl h27 rfl (zy (zT (.bool _) rfl h27 rfl) (Qmb rfl rfl (zo (zo (zo (zo (zo (zy (zT (.bool _) rfl rfl rfl) (Qmb rfl rfl (zo (zo (zo (zo ?_)))))))))))))))))
  refine zo (zy (zT (.bool _) rfl rfl rfl) (Qmb rfl rfl (zo (zo (zo (zo (zo (zy (zT (.bool _) rfl rfl rfl) (Qmb rfl rfl (zo (zo (zo (zo (zo (zy (zT (.bool _) rfl rfl rfl) (TX (T_cond_true rfl rfl ?_)))))))))))))))))
  refine T2 (Qai rfl rfl (TX (zQ (zr ?_))))
  have hav : x14.1.abs = opn (ls.map BS.l) mk l := h14
  have e : cntI (ls.map BS.l) num mk m.abs l = -1 := by
   unfold cntI
   rw [if_neg]
   rw [← hav]
   intro hc
   unfold cntD at hc
   replace hc := of_decide_eq_true hc
   simp only [MsgV.abs] at hc
   have hz : (openOfK (ls.map BS.l) mk l).1 = 0 := by
    by_cases hz : (openOfK (ls.map BS.l) mk l).1 = 0
    · exact hz
    · have h0 := congrArg MsgD.kind (hav.trans (opn_zero hz))
      exact absurd h0 hc.2.1
   simp_all
  exact zX () [_] Tryz.results156 ⟨rfl, trivial⟩ (by rw [e]; rfl) SB
 have p27 := cL h27
 refine zt rfl rfl h27 (zy (zf 0 rfl rfl) (zt rfl rfl h27 (zy (zl rfl) (zt rfl rfl h27 (zy (zf 0 rfl rfl) (zt rfl rfl h27 (zy (zl rfl) (zt rfl rfl h27 (zy (Qt_neq rfl rfl) (zy (zF (.bool _) rfl h27 rfl) (Qmb rfl rfl ?_)))))))))))
 refine TL_split 34 rfl (fun h34 => ?_) (fun h34 => ?_)
 ·
  have p34 := cL h34
  refine zp rfl rfl h34 rfl (zp rfl rfl h34 rfl (zp rfl rfl h34 rfl (zp rfl rfl h34 rfl (zp rfl rfl h34 rfl (zy (zT (.bool _) rfl h34 rfl) (Qmb rfl rfl (zo (zo (zo (zo (zo (zy (zT (.bool _) rfl rfl rfl) (Qmb rfl rfl (zo (zo (zo (zo ?_)))))))))))))))))
  refine zo (zy (zT (.bool _) rfl rfl rfl) (Qmb rfl rfl (zo (zo (zo (zo (zo (zy (zT (.bool _) rfl rfl rfl) (TX (T_cond_true rfl rfl (T2 (Qai rfl rfl (TX (zQ (zr ?_)))))))))))))))
  have hav : x14.1.abs = opn (ls.map BS.l) mk l := h14
  have e : cntI (ls.map BS.l) num mk m.abs l = -1 := by
   unfold cntI
   rw [if_neg]
   rw [← hav]
   intro hc
   unfold cntD at hc
   replace hc := of_decide_eq_true hc
   simp only [MsgV.abs] at hc
   have hz : (openOfK (ls.map BS.l) mk l).1 = 0 := by
    by_cases hz : (openOfK (ls.map BS.l) mk l).1 = 0
    · exact hz
    · have h0 := congrArg MsgD.kind (hav.trans (opn_zero hz))
      exact absurd h0 hc.2.1
   simp_all
  exact zX () [_] Tryz.results156 ⟨rfl, trivial⟩ (by rw [e]; rfl) SB
 have p34 := cL h34
 refine zt rfl rfl h34 (zy (zf 2 rfl rfl) (zt rfl rfl h34 (zy (zl rfl) (zt rfl rfl h34 (zy (zf 2 rfl rfl) (zt rfl rfl h34 (zy (zl rfl) (zt rfl rfl h34 (zy (Qt_neq rfl rfl) (zy (zF (.bool _) rfl h34 rfl) (Qmb rfl rfl ?_)))))))))))
 refine TL_split 41 rfl (fun h41 => ?_) (fun h41 => ?_)
 ·
  have p41 := cL h41
  refine zp rfl rfl h41 rfl (zp rfl rfl h41 rfl (zp rfl rfl h41 rfl (zp rfl rfl h41 rfl (zp rfl rfl h41 rfl (zy (zT (.bool _) rfl h41 rfl) (Qmb rfl rfl (zo (zo (zo (zo (zo (zy (zT (.bool _) rfl rfl rfl) (Qmb rfl rfl (zo (zo (zo (zo ?_)))))))))))))))))
  refine zo (zy (zT (.bool _) rfl rfl rfl) (TX (T_cond_true rfl rfl (T2 (Qai rfl rfl (TX (zQ (zr ?_))))))))
  have hav : x14.1.abs = opn (ls.map BS.l) mk l := h14
  have e : cntI (ls.map BS.l) num mk m.abs l = -1 := by
   unfold cntI
   rw [if_neg]
   rw [← hav]
   intro hc
   unfold cntD at hc
   replace hc := of_decide_eq_true hc
   simp only [MsgV.abs] at hc
   have hz : (openOfK (ls.map BS.l) mk l).1 = 0 := by
    by_cases hz : (openOfK (ls.map BS.l) mk l).1 = 0
    · exact hz
    · have h0 := congrArg MsgD.kind (hav.trans (opn_zero hz))
      exact absurd h0 hc.2.1
   simp_all
  exact zX () [_] Tryz.results156 ⟨rfl, trivial⟩ (by rw [e]; rfl) SB
 have p41 := cL h41
 refine zt rfl rfl h41 (zy (zf 3 rfl rfl) (zt rfl rfl h41 (zy (zl rfl) (zt rfl rfl h41 (zy (zf 3 rfl rfl) (zt rfl rfl h41 (zy (zl rfl) (zt rfl rfl h41 (zy (Qt_neq rfl rfl) (zy (zF (.bool _) rfl h41 rfl) (Qmb rfl rfl ?_)))))))))))
 refine TL_split 48 rfl (fun h48 => ?_) (fun h48 => ?_)
 ·
  have p48 := cL h48
  refine zp rfl rfl h48 rfl (zp rfl rfl h48 rfl (zp rfl rfl h48 rfl (zp rfl rfl h48 rfl (zp rfl rfl h48 rfl (zy (zT (.bool _) rfl h48 rfl) (Qmb rfl rfl (zo (zo (zo (zo (zo (zy (zT (.bool _) rfl rfl rfl) (TX (T_cond_true rfl rfl (T2 (Qai rfl rfl (TX (zQ (zr ?_)))))))))))))))))))
  have hav : x14.1.abs = opn (ls.map BS.l) mk l := h14
  have e : cntI (ls.map BS.l) num mk m.abs l = -1 := by
   unfold cntI
   rw [if_neg]
   rw [← hav]
   intro hc
   unfold cntD at hc
   replace hc := of_decide_eq_true hc
   simp only [MsgV.abs] at hc
   have hz : (openOfK (ls.map BS.l) mk l).1 = 0 := by
    by_cases hz : (openOfK (ls.map BS.l) mk l).1 = 0
    · exact hz
    · have h0 := congrArg MsgD.kind (hav.trans (opn_zero hz))
      exact absurd h0 hc.2.1
   simp_all
  exact zX () [_] Tryz.results156 ⟨rfl, trivial⟩ (by rw [e]; rfl) SB
 have p48 := cL h48
 refine zt rfl rfl h48 (zy (zf 4 rfl rfl) (zt rfl rfl h48 (zy (zl rfl) (zt rfl rfl h48 (zy (zf 4 rfl rfl) (zt rfl rfl h48 (zy (zl rfl) (zt rfl rfl h48 (zy (Qt_neq rfl rfl) (zy (zF (.bool _) rfl h48 rfl) (Qmb rfl rfl ?_)))))))))))
 refine TL_split 55 rfl (fun h55 => ?_) (fun h55 => ?_)
 ·
  have p55 := cL h55
  refine zp rfl rfl h55 rfl (zp rfl rfl h55 rfl (zp rfl rfl h55 rfl (zp rfl rfl h55 rfl (zp rfl rfl h55 rfl (zy (zT (.bool _) rfl h55 rfl) (TX (T_cond_true rfl rfl (T2 (Qai rfl rfl (TX (zQ (zr ?_))))))))))))
  have hav : x14.1.abs = opn (ls.map BS.l) mk l := h14
  have e : cntI (ls.map BS.l) num mk m.abs l = -1 := by
   unfold cntI
   rw [if_neg]
   rw [← hav]
   intro hc
   unfold cntD at hc
   replace hc := of_decide_eq_true hc
   simp only [MsgV.abs] at hc
   have hz : (openOfK (ls.map BS.l) mk l).1 = 0 := by
    by_cases hz : (openOfK (ls.map BS.l) mk l).1 = 0
    · exact hz
    · have h0 := congrArg MsgD.kind (hav.trans (opn_zero hz))
      exact absurd h0 hc.2.1
   simp_all
  exact zX () [_] Tryz.results156 ⟨rfl, trivial⟩ (by rw [e]; rfl) SB
 have p55 := cL h55
 refine zt rfl rfl h55 (zy (zf 5 rfl rfl) (zt rfl rfl h55 (zy (zn rfl rfl) (zt rfl rfl h55 (zy (zf 5 rfl rfl) (zt rfl rfl h55 (zy (zn rfl rfl) (zt rfl rfl h55 (zy (Qt_agg_neq rfl rfl (by kernel_rfl)) (zy (zF (.bool _) rfl h55 rfl) (TX ?_)))))))))))
 refine zC rfl (fun h61 => ?_) (fun h61 => ?_)
 ·
  have p61 := cL h61
  refine T2 (Qai rfl rfl (TX (zQ (zr ?_))))
  have hav : x14.1.abs = opn (ls.map BS.l) mk l := h14
  have e : cntI (ls.map BS.l) num mk m.abs l = -1 := by
   unfold cntI
   rw [if_neg]
   rw [← hav]
   intro hc
   unfold cntD at hc
   replace hc := of_decide_eq_true hc
   simp only [MsgV.abs] at hc
   have hz : (openOfK (ls.map BS.l) mk l).1 = 0 := by
    by_cases hz : (openOfK (ls.map BS.l) mk l).1 = 0
    · exact hz
    · have h0 := congrArg MsgD.kind (hav.trans (opn_zero hz))
      exact absurd h0 hc.2.1
   simp_all
  exact zX () [_] Tryz.results156 ⟨rfl, trivial⟩ (by rw [e]; rfl) SB
 have p61 := cL h61
 refine S4 (zy (zf 1 rfl rfl) (zy (zl rfl) (Qai rfl rfl (TX (zQ ?_)))))
 have hav : x14.1.abs = opn (ls.map BS.l) mk l := h14
 have e : cntI (ls.map BS.l) num mk m.abs l = x14.1.frm := by
  have hz : (openOfK (ls.map BS.l) mk l).1 = 0 := by first | (simp_all; done) | (simp_all; omega)
  have hf := (formedM_iff _).1 (opn_ok hz).1
  unfold cntI
  rw [← hav] at hf ⊢
  rw [if_pos]
  · rfl
  · simp only [MsgV.abs] at hf
    unfold cntD
    apply decide_eq_true
    simp only [MsgV.abs]
    refine ⟨?_, by omega, ?_, ?_, ?_, ?_, ?_⟩ <;> first | omega | (simp_all; done) | (simp_all; omega)
 exact zX () [_] Tryz.results156 ⟨rfl, trivial⟩ (by rw [e]; rfl) SB
theorem rWho_c {w0 : World} {H : List SA} {num : Int} {mk : Nat} (hmk : mk < 65536) {sa : Option Addr} {sc : Nat} {ls : List BS} {rt : Sl} [rk : RdC w0 H (.slice sa ls.length sc) 1 (ls.map BS.val)] [rke : RdE w0 H ls] (hkl : ∀ x ∈ ls, x.l.length ≤ 4294967000) {a : Option Addr} {ps : List BS} {c : Nat} [hp : RdC w0 H (.slice a ps.length c) 1 (ps.map BS.val)] [hpe : RdE w0 H ps] (hps : ∀ x ∈ ps, x.l.length ≤ 4294960000) (hn : ps.length ≤ 1000) {m : MsgV} :
 CT Tryz.prog w0 (H) 117 [.agg (KeysV.mk ⟨sa, sc, ls⟩ rt).cells, .agg (ViewV.mk num (mk : Int)).cells, .agg m.cells, .slice a ps.length c] (α := AC) (fun y => .slice y.a (memK (setD num m.abs ((ps.map BS.l).map (opn (ls.map BS.l) mk)))).length y.c) (fun y => row (.slice y.a ((memK (setD num m.abs ((ps.map BS.l).map (opn (ls.map BS.l) mk))))).length y.c) 3 1 (((memK (setD num m.abs ((ps.map BS.l).map (opn (ls.map BS.l) mk))))).flatMap encN) :: H) := by
 refine CT_intro Tryz.func117 rfl Tryz.ntmps117 rfl (T2 (ze rfl (Ef_boxN rfl (fun b4 => ?_))))
 refine ze rfl (Ef_boxN rfl (fun b5 => ?_))
 refine ze rfl (Ef_boxN rfl (fun b6 => ?_))
 refine Qas rfl rfl (T4 (Qas rfl rfl (TX (zS (T2 (Qai rfl rfl (TX (zB ?_))))))))
 refine T_loop [9, 10, 11, 12, 13, 14, 15, 16, 17, 18, 19, 20, 21, 22, 23, 24, 25, 26, 27, 28, 29, 30, 31, 32, 33, 34, 35, 36, 37, 38, 39, 40, 41] [10, 9] (fun us H' => ∃ (i : Nat) (a2 : Option Addr) (c2 : Nat) (out : List Nat), us = [.int .i64 (i : Int), .slice a2 out.length c2] ∧ row (.slice a2 (out).length c2) 3 1 ((out).flatMap encN) :: blk b4 (.cells (KeysV.mk ⟨sa, sc, ls⟩ rt).cells 40 (0, 0)) :: blk b5 (.cells (ViewV.mk num (mk : Int)).cells 24 (0, 0)) :: blk b6 (.cells m.cells 82 (0, 0)) :: H = H' ∧ i ≤ 16 ∧ (out = (List.range i).filter fun i => (setD num m.abs ((ps.map BS.l).map (opn (ls.map BS.l) mk))).testBit i)) (fun us => match us with | .int _ i :: _ => 16 - i.toNat | _ => 0) ⟨0, none, 0, [], rfl, rfl, by omega, rfl⟩ (fun w hw => by
  have h0 : St w0 (blk b4 (.cells (KeysV.mk ⟨sa, sc, ls⟩ rt).cells 40 (0, 0)) :: blk b5 (.cells (ViewV.mk num (mk : Int)).cells 24 (0, 0)) :: blk b6 (.cells m.cells 82 (0, 0)) :: H) w := SB w hw
  exact h0.addNil 3 1) ?_
 rintro τ0 _ _  ⟨i, a2, c2, out, rfl, rfl, hi0, ho⟩ _
 refine zS (T2 (Qmi rfl rfl (zy (Qt_lss rfl rfl) (TX (zC rfl (fun h14 => ?_) (fun h14 => ?_))))))
 ·
  have p14 := cL h14
  have hi16 : i < 16 := by omega
  refine zk (zx (zS (zB (T2 (Qab rfl rfl (TX (zS (T2 (Qai rfl rfl (TX (zB ?_)))))))))))
  refine T_loop [11, 12, 17, 18, 19, 20, 21, 22, 23, 24, 25, 26, 27, 28, 29, 30, 31, 32, 33, 34, 35, 36] [12, 11] (fun us H' => ∃ (j : Nat) (f : Bool), us = [.int .i64 (j : Int), .bool f] ∧ row (.slice a2 (out).length c2) 3 1 ((out).flatMap encN) :: blk b4 (.cells (KeysV.mk ⟨sa, sc, ls⟩ rt).cells 40 (0, 0)) :: blk b5 (.cells (ViewV.mk num (mk : Int)).cells 24 (0, 0)) :: blk b6 (.cells m.cells 82 (0, 0)) :: H = H' ∧ j ≤ ps.length ∧ (f = (((ps.map BS.l).take j).any fun l => decide (cntI (ls.map BS.l) num mk m.abs l = ((i : Nat) : Int))))) (fun us => match us with | .int _ i :: _ => ps.length - i.toNat | _ => 0) ⟨0, false, rfl, rfl, by omega, rfl⟩ SB ?_
  rintro τ1 _ _  ⟨j, f, rfl, rfl, hj0, hf⟩ _
  refine zS (T2 (Qmi rfl rfl (Qms rfl rfl (zy (zL rfl Tryz.underlying28) (zy (Qt_lss rfl rfl) (Qmb rfl rfl (TL_split 21 rfl (fun h21 => ?_) (fun h21 => ?_))))))))
  ·
   have p21 := cL h21
   have hj : j < ps.length := by omega
   refine zt rfl rfl h21 (Qmb rfl rfl (zt rfl rfl h21 (zy (Qt_not rfl) (zy (zT (.bool _) rfl h21 rfl) (TX (zC rfl (fun h24 => ?_) (fun h24 => ?_)))))))
   ·
    have p24 := cL h24
    have hff : f = false := by simpa using h24
    refine zk (zx (zS (zB (zD (blk b4 (.cells (KeysV.mk ⟨sa, sc, ls⟩ rt).cells 40 (0, 0)) :: blk b5 (.cells (ViewV.mk num (mk : Int)).cells 24 (0, 0)) :: blk b6 (.cells m.cells 82 (0, 0)) :: H) [(0, true), (1, true), (2, true), (3, true), (4, true), (5, true), (6, true), (8, true), (7, false), (9, true), (10, true)] SB (fun hns0 => ?_)))))
    refine zd hns0 rfl (zn rfl rfl) rfl (zd hns0 rfl (zn rfl rfl) rfl (zd hns0 rfl (zn rfl rfl) rfl (zd hns0 rfl (zm (.slice _ _ _) rfl) rfl (zd hns0 rfl (zm (.int .i64 _) rfl) rfl (zd hns0 rfl (Qt_indexR rfl rfl (by omega) (by simp; omega)) rfl (zd hns0 rfl (Qt_loadR (.slice _ _ _) rfl (vals_get _ _ hj)) rfl (zd hns0 rfl (zm (.int .i64 _) rfl) rfl ?_)))))))
    have : RdB w0 H (.slice ps[j].a ps[j].l.length ps[j].c) ps[j].l := hpe.get (List.getElem_mem hj)
    refine DL_e rfl rfl (zc (rCounts_c (num := num) hmk (sa := sa) (sc := sc) (ls := ls) (rt := rt) (m := m) (l := ps[j].l) hkl (hps _ (List.getElem_mem hj))) rfl (fun x34 => ⟨SB, ?_⟩))
    refine zd hns0 rfl (Qt_eql rfl rfl) rfl (zd hns0 rfl (za (.bool _) rfl) rfl (DL_nil (X_block (zx (zR (Qmi rfl rfl (zy (zj rfl rfl) (Qai rfl rfl (zz ?_)))))))))
    apply X_loop
    case ha => exact zA
    case hI => exact ⟨j + 1, _, rfl, rfl, by omega, by rw [any_succ _ _ j (by simpa using hj), ← hf, hff, Bool.false_or]; simp⟩
    case hm => exact by show ps.length - (j + 1 : Int).toNat < ps.length - (j : Int).toNat; omega
    case hH => exact SB
   have p24 := cL h24
   have hft : f = true := by simpa using h24
   have hany : f = votesI (ls.map BS.l) num mk m.abs (ps.map BS.l) i := by rw [votesI, hft]; exact (any_full _ _ j (by rw [← hf]; exact hft)).symm
   refine zY (zG (zW (zE (zx (T2 (Qmb rfl rfl (TX (zC rfl (fun h37 => ?_) (fun h37 => ?_)))))))))
   ·
    have p37 := cL h37
    have hstep := range_step (p := fun i => (setD num m.abs ((ps.map BS.l).map (opn (ls.map BS.l) mk))).testBit i) (k := i)
    rw [if_pos (by rw [← votesI_bit, ← hany]; exact h37)] at hstep
    refine zR (Qms rfl rfl (Qmi rfl rfl (ze rfl (Ef_sliceN (m := ([i] : List Nat).length) [.int .i64 (i : Int)] (([i] : List Nat).flatMap encN) rfl rfl rfl rfl (by simp [Value.cells]) rfl rfl (fun a40 c40 => ?_)))))
    refine ze rfl (Ef_appendS encN (sv := .slice _ _ _) (xv := .slice _ _ _) (xs := out) (ys := ([i] : List Nat)) (fun _ => rfl) (fun _ => rfl) rfl rfl (by have : out.length ≤ i := (by rw [ho]; exact range_le _ _); simp; omega) rfl rfl (fun a41 c41 => ?_))
    refine Qas rfl rfl (zz (X_block (zx (zR (Qmi rfl rfl (zy (zj rfl rfl) (Qai rfl rfl (zz ?_))))))))
    apply X_loop
    case ha => exact zA
    case hI => exact by first | exact ⟨i + 1, a41, c41, out ++ [i], rfl, rfl, by omega, by rw [hstep, ho]⟩ | exact ⟨i + 1, a2, c2, out, rfl, rfl, by omega, by rw [hstep, ho]⟩
    case hm => exact by show 16 - (i + 1 : Int).toNat < 16 - (i : Int).toNat; omega
    case hH => exact SB
   have p37 := cL h37
   have hstep := range_step (p := fun i => (setD num m.abs ((ps.map BS.l).map (opn (ls.map BS.l) mk))).testBit i) (k := i)
   rw [if_neg (by rw [← votesI_bit, ← hany, h37]; decide), List.append_nil] at hstep
   refine zk (X_block (zx (zR (Qmi rfl rfl (zy (zj rfl rfl) (Qai rfl rfl (zz ?_)))))))
   apply X_loop
   case ha => exact zA
   case hI => exact by first | exact ⟨i + 1, a41, c41, out ++ [i], rfl, rfl, by omega, by rw [hstep, ho]⟩ | exact ⟨i + 1, a2, c2, out, rfl, rfl, by omega, by rw [hstep, ho]⟩
   case hm => exact by show 16 - (i + 1 : Int).toNat < 16 - (i : Int).toNat; omega
   case hH => exact SB
  have p21 := cL h21
  have hjl : j = ps.length := by omega
  have hany : f = votesI (ls.map BS.l) num mk m.abs (ps.map BS.l) i := by rw [hf, votesI, List.take_of_length_le (by simp; omega)]
  refine zp rfl rfl h21 rfl (zp rfl rfl h21 rfl (zy (zF (.bool _) rfl h21 rfl) (TX (T_cond_false rfl rfl (zY (zG (zW (zE (zx (T2 (Qmb rfl rfl (TX (zC rfl (fun h37 => ?_) (fun h37 => ?_))))))))))))))
  ·
   have p37 := cL h37
   have hstep := range_step (p := fun i => (setD num m.abs ((ps.map BS.l).map (opn (ls.map BS.l) mk))).testBit i) (k := i)
   rw [if_pos (by rw [← votesI_bit, ← hany]; exact h37)] at hstep
   refine zR (Qms rfl rfl (Qmi rfl rfl (ze rfl (Ef_sliceN (m := ([i] : List Nat).length) [.int .i64 (i : Int)] (([i] : List Nat).flatMap encN) rfl rfl rfl rfl (by simp [Value.cells]) rfl rfl (fun a40 c40 => ?_)))))
   refine ze rfl (Ef_appendS encN (sv := .slice _ _ _) (xv := .slice _ _ _) (xs := out) (ys := ([i] : List Nat)) (fun _ => rfl) (fun _ => rfl) rfl rfl (by have : out.length ≤ i := (by rw [ho]; exact range_le _ _); simp; omega) rfl rfl (fun a41 c41 => ?_))
   refine Qas rfl rfl (zz (X_block (zx (zR (Qmi rfl rfl (zy (zj rfl rfl) (Qai rfl rfl (zz ?_))))))))
   apply X_loop
   case ha => exact zA
   case hI => exact by first | exact ⟨i + 1, a41, c41, out ++ [i], rfl, rfl, by omega, by rw [hstep, ho]⟩ | exact ⟨i + 1, a2, c2, out, rfl, rfl, by omega, by rw [hstep, ho]⟩
   case hm => exact by show 16 - (i + 1 : Int).toNat < 16 - (i : Int).toNat; omega
   case hH => exact SB
  have p37 := cL h37
  have hstep := range_step (p := fun i => (setD num m.abs ((ps.map BS.l).map (opn (ls.map BS.l) mk))).testBit i) (k := i)
  rw [if_neg (by rw [← votesI_bit, ← hany, h37]; decide), List.append_nil] at hstep
  refine zk (X_block (zx (zR (Qmi rfl rfl (zy (zj rfl rfl) (Qai rfl rfl (zz ?_)))))))
  apply X_loop
  case ha => exact zA
  case hI => exact by first | exact ⟨i + 1, a41, c41, out ++ [i], rfl, rfl, by omega, by rw [hstep, ho]⟩ | exact ⟨i + 1, a2, c2, out, rfl, rfl, by omega, by rw [hstep, ho]⟩
  case hm => exact by show 16 - (i + 1 : Int).toNat < 16 - (i : Int).toNat; omega
  case hH => exact SB
 have p14 := cL h14
 have hi16 : i = 16 := by omega
 subst hi16
 have hs2 : out = (memK (setD num m.abs ((ps.map BS.l).map (opn (ls.map BS.l) mk)))) := ho
 subst hs2
 refine zY (zG (zW (zE (zx (T2 (Qms rfl rfl (Qas rfl rfl (TX (zQ ?_)))))))))
 exact zX ⟨a2, c2⟩ [_] Tryz.results117 ⟨rfl, trivial⟩ rfl SB
theorem setP_lt2 {K : List (List UInt8)} {num : Int} {mk : Nat} {m : MsgD} {P : List (List UInt8)} : setD num m (P.map (opn K mk)) < 65536 := setD_lt _ (fun v hv => by obtain ⟨l, -, rfl⟩ := List.mem_map.1 hv; exact opn_frm _ _ _)
theorem enough_len {K : List (List UInt8)} {num : Int} {mk : Nat} {m : MsgD} {P : List (List UInt8)} : enoughD num mk m (P.map (opn K mk)) = decide (quorumV num mk ≤ (memK (setD num m (P.map (opn K mk)))).length) := by rw [enoughD, ones16_mem setP_lt2]
attribute [local irreducible] setD memK
theorem rDecided_c {w0 : World} {H : List SA} {num : Int} {mk : Nat} (hmk : mk < 65536) {sa : Option Addr} {sc : Nat} {ls : List BS} {rt : Sl} [rk : RdC w0 H (.slice sa ls.length sc) 1 (ls.map BS.val)] [rke : RdE w0 H ls] (hkl : ∀ x ∈ ls, x.l.length ≤ 4294967000) {a : Option Addr} {ps : List BS} {c : Nat} [hp : RdC w0 H (.slice a ps.length c) 1 (ps.map BS.val)] [hpe : RdE w0 H ps] (hps : ∀ x ∈ ps, x.l.length ≤ 4294960000) (hn : ps.length ≤ 1000) {slot : Int} {h : Vector UInt8 32} :
 CT Tryz.prog w0 (H) 73 [.agg (KeysV.mk ⟨sa, sc, ls⟩ rt).cells, .agg (ViewV.mk num (mk : Int)).cells, .int .i64 slot, .agg (hlist h).toArray, .slice a ps.length c] (α := Unit) (fun _ => .tuple #[.int .i64 (decidD (ls.map BS.l) num mk slot h (ps.map BS.l)).1, .int .i64 (decidD (ls.map BS.l) num mk slot h (ps.map BS.l)).2]) (fun _ => H) := by
 refine CT_intro Tryz.func73 rfl Tryz.ntmps73 rfl (T2 (ze rfl (Ef_boxN rfl (fun b5 => ?_))))
 refine ze rfl (Ef_boxN rfl (fun b6 => ?_))
 refine ze rfl (Ef_boxN rfl (fun b8 => ?_))
 refine Qai rfl rfl (Qai rfl rfl (TX (zS (T2 (zy (zn rfl rfl) (ze rfl (zc (rRight_c hmk) rfl (fun x15 => ?_))))))))
 refine zy (Qt_not rfl) (Qmb rfl rfl (TL_split 17 rfl (fun h17 => ?_) (fun h17 => ?_)))
 ·
  have p17 := cL h17
  refine zp rfl rfl h17 rfl (zp rfl rfl h17 rfl (zp rfl rfl h17 rfl (zy (zT (.bool _) rfl h17 rfl) (TX (T_cond_true rfl rfl (T2 (Qai rfl rfl (Qai rfl rfl (TX (zQ (zr ?_)))))))))))
  have e : decidD (ls.map BS.l) num mk slot h (ps.map BS.l) = (0, 12) := if_neg (by rintro ⟨h1, h2⟩; rw [List.length_map] at h2; first | (simp_all; done) | (simp_all; omega))
  exact zX () [_, _] Tryz.results73 ⟨rfl, rfl, trivial⟩ (by rw [e]; rfl) SB
 have p17 := cL h17
 refine zt rfl rfl h17 (Qms rfl rfl (zt rfl rfl h17 (zy (zL rfl Tryz.underlying28) (zt rfl rfl h17 (zy (Qt_gtr rfl rfl) (zy (zF (.bool _) rfl h17 rfl) (TX (zC rfl (fun h21 => ?_) (fun h21 => ?_)))))))))
 ·
  have p21 := cL h21
  refine T2 (Qai rfl rfl (Qai rfl rfl (TX (zQ (zr ?_)))))
  have e : decidD (ls.map BS.l) num mk slot h (ps.map BS.l) = (0, 12) := if_neg (by rintro ⟨h1, h2⟩; rw [List.length_map] at h2; first | (simp_all; done) | (simp_all; omega))
  exact zX () [_, _] Tryz.results73 ⟨rfl, rfl, trivial⟩ (by rw [e]; rfl) SB
 have p21 := cL h21
 refine zk (zx (zS (T2 (Qai rfl rfl (TX (zB ?_))))))
 refine T_loop [10, 11, 12, 13, 22, 23, 24, 25, 26, 27, 28, 29, 30, 31, 32, 33, 34, 35, 36, 37, 38, 39, 40, 41] [12] (fun us H' => ∃ (k : Nat), us = [.int .i64 (k : Int)] ∧ blk b5 (.cells (KeysV.mk ⟨sa, sc, ls⟩ rt).cells 40 (0, 0)) :: blk b6 (.cells (ViewV.mk num (mk : Int)).cells 24 (0, 0)) :: blk b8 (.cells (hlist h).toArray 32 (0, 0)) :: H = H' ∧ k ≤ 41 ∧ (∀ i < k, enoughD num mk (wMsg 3 num i slot h) ((ps.map BS.l).map (opn (ls.map BS.l) mk)) = false)) (fun us => match us with | .int _ i :: _ => 41 - i.toNat | _ => 0) ⟨0, rfl, rfl, by omega, fun i h => by omega⟩ SB ?_
 rintro τ0 _ _  ⟨k, rfl, rfl, hk0, hno⟩ _
 refine zS (T2 (Qmi rfl rfl (zy (Qt_leq rfl rfl) (TX (zC rfl (fun h23 => ?_) (fun h23 => ?_))))))
 ·
  have p23 := cL h23
  refine zk (zx (zS (zB (T2 (zy (zf 0 rfl rfl) (zy (zl rfl) (Qmi rfl rfl (Qmi rfl rfl (zy (zn rfl rfl) (zy (zw [(0, (.int .i64 _)), (2, (.int .i64 _)), (3, (.int .i64 _)), (4, (.int .i64 _)), (5, (.agg _))] rfl) (ze rfl (Ef_allocN (fun b13 => ?_)))))))))))))
  refine zN (zs rfl rfl (TX (zS (zD (blk b5 (.cells (KeysV.mk ⟨sa, sc, ls⟩ rt).cells 40 (0, 0)) :: blk b6 (.cells (ViewV.mk num (mk : Int)).cells 24 (0, 0)) :: blk b8 (.cells (hlist h).toArray 32 (0, 0)) :: blk b13 (.cells (MsgV.mk 3 0 num (k : Int) slot h ⟨none, 0, []⟩ ⟨none, 0, []⟩).cells 82 (0, 0)) :: H) [(0, true), (1, true), (2, true), (3, true), (6, true), (4, false), (5, true), (7, false), (8, true)] SB (fun hns0 => ?_)))))
  refine zd hns0 rfl (zn rfl rfl) rfl (zd hns0 rfl (zn rfl rfl) rfl (zd hns0 rfl (zn rfl rfl) rfl (zd hns0 rfl (zm (.slice _ _ _) rfl) rfl (zd hns0 rfl (zn rfl rfl) rfl (DL_e rfl rfl (zc (rWho_c (num := num) hmk (sa := sa) (sc := sc) (ls := ls) (rt := rt) (ps := ps) hkl hps hn (m := ⟨3, 0, num, (k : Int), slot, h, ⟨none, 0, []⟩, ⟨none, 0, []⟩⟩)) rfl (fun x36 => ⟨SB, ?_⟩)))))))
  refine zd hns0 rfl (zL rfl Tryz.underlying95) rfl (DL_e rfl rfl (zc (rQuorum_c (num := num) hmk) rfl (fun x39 => ⟨SB, ?_⟩)))
  refine zd hns0 rfl (Qt_geq rfl rfl) rfl (DL_nil (zx (zC rfl (fun h40 => ?_) (fun h40 => ?_))))
  ·
   have p40 := cL h40
   have hen : enoughD num mk (wMsg 3 num k slot h) ((ps.map BS.l).map (opn (ls.map BS.l) mk)) = true := by rw [enough_len, decide_eq_true_eq]; have h2 : quorumV num mk ≤ (memK (setD num (MsgV.abs ⟨3, 0, num, (k : Int), slot, h, ⟨none, 0, []⟩, ⟨none, 0, []⟩⟩) ((ps.map BS.l).map (opn (ls.map BS.l) mk)))).length := (by have := of_decide_eq_true h40; omega); exact h2
   refine T2 (Qmi rfl rfl (Qai rfl rfl (Qai rfl rfl (TX (zQ (zb (zr (X_loop_ret (zb (zr ?_))))))))))
   have e : decidD (ls.map BS.l) num mk slot h (ps.map BS.l) = ((k : Int), 0) := by rw [decidD, if_pos ⟨by simp_all, by rw [List.length_map]; first | omega | (simp_all; omega)⟩, find_range (k := k) (by omega) hno hen]
   exact zX () [_, _] Tryz.results73 ⟨rfl, rfl, trivial⟩ (by rw [e]; rfl) SB
  have p40 := cL h40
  have hen : enoughD num mk (wMsg 3 num k slot h) ((ps.map BS.l).map (opn (ls.map BS.l) mk)) = false := by rw [enough_len, decide_eq_false_iff_not]; have h2 : ¬ quorumV num mk ≤ (memK (setD num (MsgV.abs ⟨3, 0, num, (k : Int), slot, h, ⟨none, 0, []⟩, ⟨none, 0, []⟩⟩) ((ps.map BS.l).map (opn (ls.map BS.l) mk)))).length := (by have := of_decide_eq_false h40; omega); exact h2
  refine zk (X_block (zx (zR (Qmi rfl rfl (zy (zj rfl rfl) (Qai rfl rfl (zz ?_)))))))
  apply X_loop
  case ha => exact zA
  case hI => exact ⟨k + 1, rfl, rfl, by omega, fun i h => by rcases Nat.lt_or_ge i k with h1 | h1; exact hno i h1; obtain rfl : i = k := (by omega); exact hen⟩
  case hm => exact by show 41 - (k + 1 : Int).toNat < 41 - (k : Int).toNat; omega
  case hH => exact SB
 have p23 := cL h23
 refine zY (zG (zW (zE (zx (T2 (Qai rfl rfl (Qai rfl rfl (TX (zQ ?_)))))))))
 have e : decidD (ls.map BS.l) num mk slot h (ps.map BS.l) = (0, 12) := by rw [decidD, if_pos ⟨by simp_all, by rw [List.length_map]; first | omega | (simp_all; omega)⟩, find_range_none (fun i h => hno i (by omega))]
 exact zX () [_, _] Tryz.results73 ⟨rfl, rfl, trivial⟩ (by rw [e]; rfl) SB
end
end Go.Proofs.YtnijomppbgdmnaaGreat
