/- Lists of bytes; walks: the references on numbers, texts, digests, and on what is alike. -/
import Derived.Test.YtnijomppbgdmnaaGreatSgP
import Derived.Test.YtnijomppbgdmnaaGreatRdRP
set_option linter.unusedSimpArgs false
set_option linter.unusedVariables false
namespace Go.Proofs.YtnijomppbgdmnaaGreat
open Go.RowKit Go.Sx
set_option maxRecDepth 100000
set_option maxHeartbeats 1000000
def textB (l : List UInt8) : List UInt8 := packed l.length ++ l
def u64 (k : Int) : Int := IntKind.u64.wrap k
def texts (l : List (List UInt8)) : List UInt8 := (l.map textB).flatten
theorem textB_length (l : List UInt8) (h : l.length < 18446744073709551616) : (textB l).length ≤ 10 + l.length := by
 have := packed_length_le l.length h
 simp [textB]; omega
theorem take_get {α : Type} (l : List α) (k : Nat) (h : k < l.length) : l.take (k + 1) = l.take k ++ [l[k]] := List.take_succ_eq_append_getElem h
theorem byteOf_eq (a b : UInt8) : ((a.toNat : Int) = (b.toNat : Int)) ↔ a = b := by
 rw [← UInt8.toNat_inj]; omega
theorem take_eq_all {α : Type} {l l2 : List α} {k : Nat} (h : l.take k = l2.take k) (hk : k = l.length) (hl : l.length = l2.length) : l = l2 := by
 subst hk
 rw [List.take_length, hl, List.take_length] at h
 exact h
theorem take_eq_snoc {α : Type} {l l2 : List α} {k : Nat} (h : l.take k = l2.take k) (h1 : k < l.length) (h2 : k < l2.length) (he : l[k] = l2[k]) : l.take (k + 1) = l2.take (k + 1) := by
 rw [take_get _ _ h1, take_get _ _ h2, h, he]
theorem ne_of_get {α : Type} {l l2 : List α} {k : Nat} (h1 : k < l.length) (h2 : k < l2.length) (he : l[k] ≠ l2[k]) : l ≠ l2 := by
 rintro rfl; exact he rfl
theorem same_c {w0 : World} {H : List SA} {a a2 : Option Addr} {l l2 : List UInt8} {c c2 : Nat} [hr : RdB w0 H (.slice a l.length c) l] [hr2 : RdB w0 H (.slice a2 l2.length c2) l2] (hl : l.length ≤ 4294967296) :
 CT Tryz.prog w0 (H) 35 [.slice a l.length c, .slice a2 l2.length c2] (α := Unit) (fun _ => .bool (decide (l = l2))) (fun _ => H) := by
 refine CT_intro Tryz.func35 rfl Tryz.ntmps35 rfl (T2 (Qab rfl rfl (TX (zS (T2 (Qms rfl rfl (zy (zL rfl Tryz.underlying33) (Qms rfl rfl (zy (zL rfl Tryz.underlying33) (zy (Qt_neq rfl rfl) (TX (zC rfl (fun h10 => ?_) (fun h10 => ?_)))))))))))))
 ·
  have p10 := cL h10
  refine T2 (Qab rfl rfl (TX (zQ (zr ?_))))
  have he : ¬ l = l2 := fun h => p10 (by rw [h])
  exact zX () [.bool (decide (l = l2))] Tryz.results35 ⟨by simp only [he, decide_false]; rfl, trivial⟩ rfl SB
 have p10 := cL h10
 refine zk (zx (zS (T2 (Qai rfl rfl (TX (zB ?_))))))
 have hll : l.length = l2.length := by omega
 refine T_loop [4, 5, 11, 12, 13, 14, 15, 16, 17, 18, 19, 20, 21, 22, 23, 24, 25] [5] (fun vs H' => ∃ k : Nat, vs = [.int .i64 (k : Int)] ∧ H = H' ∧ k ≤ l.length ∧ l.take k = l2.take k) (fun vs => match vs with | .int _ i :: _ => l.length - i.toNat | _ => 0) ⟨0, rfl, rfl, by omega, rfl⟩ SB ?_
 rintro τ0 _ _  ⟨k, rfl, rfl, hk0, hpre⟩ _
 refine zS (T2 (Qmi rfl rfl (Qms rfl rfl (zy (zL rfl Tryz.underlying33) (zy (Qt_lss rfl rfl) (TX (zC rfl (fun h14 => ?_) (fun h14 => ?_))))))))
 ·
  have p14 := cL h14
  have hk : k < l.length := by omega
  have hk2 : k < l2.length := by omega
  refine zk (zx (zS (zB (zS (zD _ [(0, true), (1, true), (2, true), (3, true), (4, true), (5, true), (6, true), (7, true), (8, true)] (fun _ hh => hh) (fun hns0 => ?_))))))
  refine zd hns0 rfl (zm (.slice _ _ _) rfl) rfl (zd hns0 rfl (zm (.int .i64 _) rfl) rfl (zd hns0 rfl (Qt_indexR rfl rfl (by omega) (by simp; omega)) rfl (zd hns0 rfl (Qt_loadR (.int .u8 (l[k].toNat : Int)) rfl (bytes_get _ _ hk)) rfl (zd hns0 rfl (zm (.slice _ _ _) rfl) rfl (zd hns0 rfl (zm (.int .i64 _) rfl) rfl (zd hns0 rfl (Qt_indexR rfl rfl (by omega) (by simp; omega)) rfl (zd hns0 rfl (Qt_loadR (.int .u8 (l2[k].toNat : Int)) rfl (bytes_get _ _ hk2)) rfl (zd hns0 rfl (Qt_neq rfl rfl) rfl (DL_nil (zx (zC rfl (fun h25 => ?_) (fun h25 => ?_))))))))))))
  ·
   have p25 := cL h25
   have hne : l[k] ≠ l2[k] := fun h => p25 (by rw [h])
   have he := ne_of_get hk hk2 hne
   refine T2 (Qab rfl rfl (TX (zQ (zb (zr (X_loop_ret (zb (zr ?_))))))))
   exact zX () [.bool (decide (l = l2))] Tryz.results35 ⟨by simp only [he, decide_false, decide_true]; rfl, trivial⟩ rfl SB
  have p25 := cL h25
  have heq : l[k] = l2[k] := (byteOf_eq _ _).1 p25
  refine zk (X_block (zx (zR ?_)))
  refine Qmi rfl rfl (zy (zj rfl rfl) (Qai rfl rfl (zz (X_loop _ zA (⟨k + 1, rfl, rfl, by omega, take_eq_snoc hpre hk hk2 heq⟩) (by show l.length - (k + 1 : Int).toNat < l.length - (k : Int).toNat; omega) (SB)))))
 have p14 := cL h14
 have he := take_eq_all hpre (by omega) hll
 refine zY (zG (zW (zE (zx (T2 (Qab rfl rfl (TX (zQ ?_))))))))
 exact zX () [.bool (decide (l = l2))] Tryz.results35 ⟨by simp only [he, decide_false, decide_true]; rfl, trivial⟩ rfl SB
theorem quo_nat (x k : Nat) (hk : k ≠ 0) (h : x < 18446744073709551616) : IntKind.u64.wrap ((x : Int).tdiv (k : Int)) = ((x / k : Nat) : Int) := by
 have e : (x : Int).tdiv (k : Int) = ((x / k : Nat) : Int) := by rw [Int.ofNat_tdiv]
 have := Nat.div_le_self x k
 rw [e]
 generalize x / k = q at *
 exact wrap_u64 (by omega) (by omega)
theorem rem_nat (x k : Nat) : (x : Int).tmod (k : Int) = ((x % k : Nat) : Int) := by rw [Int.ofNat_tmod]
theorem u8Of_rem (x : Nat) : u8Of (IntKind.u8.wrap ((x : Int).tmod 256)) = UInt8.ofNat (x % 256) := by
 rw [show (256 : Int) = ((256 : Nat) : Int) from rfl, rem_nat, u8Of_wrap]
theorem u8Of_rem128 (x : Nat) : u8Of (IntKind.u8.wrap (IntKind.u64.wrap ((x : Int).tmod 128 + 128))) = UInt8.ofNat (x % 128 + 128) := by
 rw [show (128 : Int) = ((128 : Nat) : Int) from rfl, rem_nat, wrap_u64 (by omega) (by omega), ← Int.natCast_add, u8Of_wrap]
def fixedR (x n : Int) : List UInt8 := if wideB n then fixed x.toNat n.toNat else []
theorem rWide_c {w0 : World} {H : List SA} {n : Int} :
 CT Tryz.prog w0 (H) 133 [.int .i64 n] (α := Unit) (fun _ => .bool (wideB n)) (fun _ => H) := by
 refine CT_intro Tryz.func133 rfl Tryz.ntmps133 rfl (T2 (Qab rfl rfl (T4 (Qmi rfl rfl (zy (Qt_eql rfl rfl) (Qmb rfl rfl (TL_split 5 rfl (fun h5 => ?_) (fun h5 => ?_))))))))
 ·
  have p5 := cL h5
  refine zp rfl rfl h5 rfl (zp rfl rfl h5 rfl (zy (zT (.bool _) rfl h5 rfl) (Qmb rfl rfl (zo (zo (zy (zT (.bool _) rfl rfl rfl) (Qmb rfl rfl (zo (zo (zy (zT (.bool _) rfl rfl rfl) (Qab rfl rfl (TX (zQ ?_)))))))))))))
  exact zX () [.bool (wideB n)] Tryz.results133 ⟨by refine congrArg Value.bool ?_; simp_all [wideB], trivial⟩ rfl SB
 have p5 := cL h5
 refine zt rfl rfl h5 (Qmi rfl rfl (zt rfl rfl h5 (zy (Qt_eql rfl rfl) (zy (zF (.bool _) rfl h5 rfl) (Qmb rfl rfl (TL_split 9 rfl (fun h9 => ?_) (fun h9 => ?_)))))))
 ·
  have p9 := cL h9
  refine zp rfl rfl h9 rfl (zp rfl rfl h9 rfl (zy (zT (.bool _) rfl h9 rfl) (Qmb rfl rfl (zo (zo (zy (zT (.bool _) rfl rfl rfl) (Qab rfl rfl (TX (zQ ?_)))))))))
  exact zX () [.bool (wideB n)] Tryz.results133 ⟨by refine congrArg Value.bool ?_; simp_all [wideB], trivial⟩ rfl SB
 have p9 := cL h9
 refine zt rfl rfl h9 (Qmi rfl rfl (zt rfl rfl h9 (zy (Qt_eql rfl rfl) (zy (zF (.bool _) rfl h9 rfl) (Qmb rfl rfl (TL_split 13 rfl (fun h13 => ?_) (fun h13 => ?_)))))))
 ·
  have p13 := cL h13
  refine zp rfl rfl h13 rfl (zp rfl rfl h13 rfl (zy (zT (.bool _) rfl h13 rfl) (Qab rfl rfl (TX (zQ ?_)))))
  exact zX () [.bool (wideB n)] Tryz.results133 ⟨by refine congrArg Value.bool ?_; simp_all [wideB], trivial⟩ rfl SB
 have p13 := cL h13
 refine zt rfl rfl h13 (Qmi rfl rfl (zt rfl rfl h13 (zy (Qt_eql rfl rfl) (zy (zF (.bool _) rfl h13 rfl) (Qab rfl rfl (TX (zQ ?_)))))))
 exact zX () [.bool (wideB n)] Tryz.results133 ⟨by refine congrArg Value.bool ?_; simp_all [wideB], trivial⟩ rfl SB
theorem rFixed_c {w0 : World} {H : List SA} {x n : Int} (hx : 0 ≤ x) (hx2 : x < 18446744073709551616) :
 CT Tryz.prog w0 (H) 121 [.int .u64 x, .int .i64 n] (α := AC) (fun y => .slice y.a (fixedR x n).length y.c) (fun y => row (.slice y.a (fixedR x n).length y.c) 5 1 (bytesV (fixedR x n)) :: H) := by
 refine CT_intro Tryz.func121 rfl Tryz.ntmps121 rfl (T2 (Qas rfl rfl (T4 (Qas rfl rfl (TX (zS (T2 (Qmi rfl rfl (ze rfl (zc (rWide_c) rfl (fun x10 => ?_)))))))))))
 refine zy (Qt_not rfl) (TX (zC rfl (fun h11 => ?_) (fun h11 => ?_)))
 ·
  have p11 := cL h11
  refine T2 (Qms rfl rfl (Qas rfl rfl (TX (zQ (zr ?_)))))
  have e : fixedR x n = [] := by simp [fixedR, show wideB n = false by simpa using p11]
  simp only [e]
  exact zX ⟨none, 0⟩ [_] Tryz.results121 ⟨rfl, trivial⟩ rfl (fun w hw => (SB w hw : St w0 H w).addNilB 5)
 have p11 := cL h11
 refine zk (zx (zS (T2 (Qai rfl rfl (TX (zB ?_))))))
 have hw5 : wideB n = true := by simpa using p11
 have hw4 := wideB_le hw5
 obtain ⟨x, rfl⟩ := Int.eq_ofNat_of_zero_le hx
 obtain ⟨n, rfl⟩ := Int.eq_ofNat_of_zero_le (show 0 ≤ n by omega)
 refine T_loop [5, 6, 7, 8, 13, 14, 15, 16, 17, 18, 19, 20, 21, 22, 23, 24, 25, 26, 27, 28, 29, 30, 31, 32, 33] [6, 5] (fun vs H' => ∃ (i : Nat) (a : Option Addr) (c : Nat), vs = [.int .i64 (i : Int), .slice a ((fixed x n).take i).length c] ∧ H' = row (.slice a ((fixed x n).take i).length c) 5 1 (bytesV ((fixed x n).take i)) :: H ∧ i ≤ n) (fun vs => match vs with | .int _ i :: _ => n - i.toNat | _ => 0) ⟨0, none, 0, by rw [List.take_zero]; rfl, by rw [List.take_zero], Nat.zero_le _⟩ (fun w hw => hw.addNilB 5) ?_
 rintro τ0 _ _  ⟨i, a1, c1, rfl, rfl, hi0⟩ _
 refine zS (T2 (Qmi rfl rfl (Qmi rfl rfl (zy (Qt_lss rfl rfl) (TX (zC rfl (fun h15 => ?_) (fun h15 => ?_)))))))
 ·
  have p15 := cL h15
  have hi : i < n := by omega
  refine zk (zx (zS (zB (T2 (zy (zm (.int .u64 _) rfl) (zy (za (.int .u64 _) rfl) (TX (zS (T2 (Qmi rfl rfl (Qai rfl rfl (TX (zB ?_)))))))))))))
  refine T_loop [7, 8, 20, 21, 22, 23, 24, 25, 26, 27] [8, 7] (fun vs H' => ∃ (k : Nat), vs = [.int .i64 (k : Int), .int .u64 ((x / 256 ^ (k - i) : Nat) : Int)] ∧ H' = row (.slice a1 ((fixed x n).take i).length c1) 5 1 (bytesV ((fixed x n).take i)) :: H ∧ i ≤ k ∧ k ≤ n - 1) (fun vs => match vs with | .int _ k :: _ => n - k.toNat | _ => 0) ⟨i, by rw [Nat.sub_self, Nat.pow_zero, Nat.div_one]; rfl, rfl, Nat.le_refl _, by omega⟩ SB ?_
  rintro τ1 _ _  ⟨k, rfl, rfl, hik, hkn⟩ _
  refine zS (T2 (Qmi rfl rfl (Qmi rfl rfl (zy (zh rfl rfl) (zy (Qt_lss rfl rfl) (TX (zC rfl (fun h23 => ?_) (fun h23 => ?_))))))))
  ·
   have p23 := cL h23
   refine zk (zx (zS (zB (zR (zy (zm (.int .u64 _) rfl) (zy (Qt_quo rfl rfl (by omega)) (zy (za (.int .u64 _) rfl) (zz (X_block (zx (zR ?_)))))))))))
   refine Qmi rfl rfl (zy (zj rfl rfl) (Qai rfl rfl (zz (X_loop _ zA (⟨k + 1, by rw [show (x / 256 ^ (k + 1 - i) : Nat) = x / 256 ^ (k - i) / 256 from by rw [Nat.div_div_eq_div_mul, ← Nat.pow_succ]; congr 2; omega, ← quo_nat _ _ (by omega) (Nat.lt_of_le_of_lt (Nat.div_le_self _ _) (by omega))]; rfl, rfl, by omega, by omega⟩) (by show n - (k + 1 : Int).toNat < n - (k : Int).toNat; omega) (SB)))))
  have p23 := cL h23
  have hkk : k - i = n - 1 - i := by omega
  refine zY (zG (zW (zE (zx (zR (Qms rfl rfl (zy (zm (.int .u64 _) rfl) (zy (Qt_rem rfl rfl (by omega)) (zy (Qt_conv rfl rfl Tryz.underlying5) (ze rfl (Ef_slice1 (v := .int .u8 (IntKind.u8.wrap _)) rfl (fun a32 c32 => ?_))))))))))))
  refine ze rfl (Ef_appendb (n := IntKind.u8.wrap _) (sv := .slice _ _ _) (xv := .slice _ _ _) rfl rfl (wrap_u8_range _) (by simp; omega) rfl (fun a33 c33 => ?_))
  rw [u8Of_rem, hkk, ← fixed_take _ _ _ hi]
  refine Qas rfl rfl (zz (X_block (zx (zR ?_))))
  refine Qmi rfl rfl (zy (zj rfl rfl) (Qai rfl rfl (zz (X_loop _ zA (⟨i + 1, a33, c33, rfl, rfl, by omega⟩) (by show n - (i + 1 : Int).toNat < n - (i : Int).toNat; omega) (SB)))))
 have p15 := cL h15
 have et : (fixed x n).take i = fixed x n := List.take_of_length_le (by rw [fixed_length]; omega)
 simp only [et]
 refine zY (zG (zW (zE (zx (T2 (Qms rfl rfl (Qas rfl rfl (TX (zQ ?_)))))))))
 have e : fixedR (x : Int) (n : Int) = fixed x n := by simp [fixedR, hw5]
 simp only [e]
 exact zX ⟨a1, c1⟩ [_] Tryz.results121 ⟨rfl, trivial⟩ rfl SB
theorem rPacked_c {w0 : World} {H : List SA} {x : Int} (hx : 0 ≤ x) (hx2 : x < 18446744073709551616) :
 CT Tryz.prog w0 (H) 169 [.int .u64 x] (α := AC) (fun y => .slice y.a (packed x.toNat).length y.c) (fun y => row (.slice y.a (packed x.toNat).length y.c) 5 1 (bytesV (packed x.toNat)) :: H) := by
 refine CT_intro Tryz.func169 rfl Tryz.ntmps169 rfl (T2 (Qas rfl rfl (T4 (Qas rfl rfl (TX (zS (zB ?_)))))))
 obtain ⟨x, rfl⟩ := Int.eq_ofNat_of_zero_le hx
 refine T_loop [0, 3, 4, 5, 6, 7, 8, 9, 10, 11, 12, 13, 14] [0, 3] (fun vs H' => ∃ (y : Nat) (dn : List UInt8) (a : Option Addr) (c : Nat), vs = [.int .u64 (y : Int), .slice a dn.length c] ∧ H' = row (.slice a (dn).length c) 5 1 (bytesV (dn)) :: H ∧ dn ++ packed y = packed x ∧ dn.length ≤ 10 ∧ (128 ^ dn.length * y ≤ x)) (fun vs => match vs with | .int _ i :: _ => i.toNat | _ => 0) ⟨x, [], none, 0, rfl, rfl, rfl, by simp, by simp⟩ (fun w hw => hw.addNilB 5) ?_
 rintro τ0 _ _  ⟨y, dn, a1, c1, rfl, rfl, hd, hl2, hy⟩ _
 refine zS (T2 (zy (zm (.int .u64 _) rfl) (zy (Qt_gtr rfl rfl) (TX (zC rfl (fun h5 => ?_) (fun h5 => ?_))))))
 ·
  have p5 := cL h5
  have hyb : ¬ y < 128 := by omega
  have hy64 : y < 18446744073709551616 := by have h1 : 1 * y ≤ 128 ^ dn.length * y := Nat.mul_le_mul_right _ (Nat.pow_pos (by omega)); omega
  have hdy : 128 ^ (dn ++ [UInt8.ofNat (y % 128 + 128)]).length * (y / 128) ≤ x := by
   rw [List.length_append, List.length_singleton, Nat.pow_succ, Nat.mul_assoc]
   exact Nat.le_trans (Nat.mul_le_mul_left _ (by omega)) hy
  have hdl : (dn ++ [UInt8.ofNat (y % 128 + 128)]).length ≤ 10 := by
   rw [List.length_append, List.length_singleton]
   rcases Nat.lt_or_ge dn.length 10 with h | h
   · omega
   · have h10 : dn.length = 10 := by omega
     rw [h10] at hy
     omega
  refine zk (zx (zB (T2 (Qms rfl rfl (zy (zm (.int .u64 _) rfl) (zy (Qt_rem rfl rfl (by omega)) (zy (Qt_addw rfl rfl) (zy (Qt_conv rfl rfl Tryz.underlying5) (ze rfl (Ef_slice1 (v := .int .u8 (IntKind.u8.wrap _)) rfl (fun a11 c11 => ?_)))))))))))
  refine ze rfl (Ef_appendb (n := IntKind.u8.wrap _) (sv := .slice _ _ _) (xv := .slice _ _ _) rfl rfl (wrap_u8_range _) (by first | omega | (simp; omega)) rfl (fun a12 c12 => ?_))
  rw [u8Of_rem128]
  refine Qas rfl rfl (TX (zR (zy (zm (.int .u64 _) rfl) (zy (Qt_quo rfl rfl (by omega)) (zy (za (.int .u64 _) rfl) (zz (X_block ?_)))))))
  refine X_loop _ zA (⟨y / 128, dn ++ [UInt8.ofNat (y % 128 + 128)], a12, c12, by rw [← quo_nat y 128 (by omega) hy64]; rfl, rfl, by rw [List.append_assoc, List.singleton_append, ← packed_big hyb]; exact hd, hdl, hdy⟩) (by show (IntKind.u64.wrap ((y : Int).tdiv ((128 : Nat) : Int))).toNat < (y : Int).toNat; rw [quo_nat y 128 (by omega) hy64]; omega) (SB)
 have p5 := cL h5
 have hyb : y < 128 := by omega
 rw [packed_small hyb] at hd
 refine zY (zG (zW (zE (zx (T2 (Qms rfl rfl (zy (zm (.int .u64 _) rfl) (zy (Qt_conv rfl rfl Tryz.underlying5) (ze rfl (Ef_slice1 (v := .int .u8 (IntKind.u8.wrap _)) rfl (fun a18 c18 => ?_)))))))))))
 refine ze rfl (Ef_appendb (n := IntKind.u8.wrap _) (sv := .slice _ _ _) (xv := .slice _ _ _) rfl rfl (wrap_u8_range _) (by first | omega | (simp; omega)) rfl (fun a19 c19 => ?_))
 rw [u8Of_wrap]
 refine Qas rfl rfl (T4 (Qms rfl rfl (Qas rfl rfl (TX (zQ ?_)))))
 have e : packed (x : Int).toNat = dn ++ [UInt8.ofNat y] := hd.symm
 simp only [e]
 exact zX ⟨a19, c19⟩ [_] Tryz.results169 ⟨rfl, trivial⟩ rfl SB
theorem rText_c {w0 : World} {H : List SA} {a2 : Option Addr} {l2 : List UInt8} {c2 : Nat} [hr2 : RdB w0 H (.slice a2 l2.length c2) l2] (hl2 : l2.length ≤ 2147483000) :
 CT Tryz.prog w0 (H) 136 [.slice a2 l2.length c2] (α := AC) (fun y => .slice y.a (textB l2).length y.c) (fun y => row (.slice y.a (textB l2).length y.c) 5 1 (bytesV (textB l2)) :: H) := by
 refine CT_intro Tryz.func136 rfl Tryz.ntmps136 rfl (T2 (Qas rfl rfl (T4 (Qms rfl rfl (zy (zL rfl Tryz.underlying33) (zy (Qt_conv_u64 rfl rfl Tryz.underlying121 (by omega) (by omega)) (ze rfl (zc (rPacked_c (x := (l2.length : Int)) (by omega) (by omega)) rfl (fun x7 => ?_)))))))))
 rw [show (l2.length : Int).toNat = l2.length from rfl]
 refine Qas rfl rfl (T4 (Qms rfl rfl (Qms rfl rfl (ze rfl (Ef_appendB (sv := .slice _ _ _) (xv := .slice _ _ _) rfl rfl (by have := packed_length_le l2.length (by omega); simp; omega) rfl (fun a10 c10 => ?_))))))
 rw [show packed l2.length ++ l2 = textB l2 from rfl]
 refine Qas rfl rfl (T4 (Qms rfl rfl (Qas rfl rfl (TX (zQ ?_)))))
 exact zX ⟨a10, c10⟩ [_] Tryz.results136 ⟨rfl, trivial⟩ rfl SB
theorem toList_take {n : Nat} (h : Vector UInt8 n) (i : Nat) (hi : i < n) : h.toList.take i ++ [h[i]] = h.toList.take (i + 1) := by
 rw [List.take_succ_eq_append_getElem (by simpa using hi)]; simp
theorem u8Of_nat (b : UInt8) : u8Of (b.toNat : Int) = b := by simp [u8Of]

theorem rHash_c {w0 : World} {H : List SA} {h : Vector UInt8 32} :
 CT Tryz.prog w0 (H) 116 [.agg (hlist h).toArray] (α := AC) (fun y => .slice y.a h.toList.length y.c) (fun y => row (.slice y.a h.toList.length y.c) 5 1 (bytesV h.toList) :: H) := by
 refine CT_intro Tryz.func116 rfl Tryz.ntmps116 rfl (T2 (ze rfl (Ef_boxN rfl (fun b1 => ?_))))
 refine Qas rfl rfl (T4 (Qas rfl rfl (TX (zS (T2 (Qai rfl rfl (TX (zB ?_))))))))
 refine T_loop [3, 4, 5, 6, 7, 8, 9, 10, 11, 12, 13, 14] [4, 3] (fun vs H' => ∃ (i : Nat) (a : Option Addr) (c : Nat), vs = [.int .i64 (i : Int), .slice a (h.toList.take i).length c] ∧ H' = row (.slice a (h.toList.take i).length c) 5 1 (bytesV (h.toList.take i)) :: blk b1 (.cells (hlist h).toArray 32 (0, 0)) :: H ∧ i ≤ 32) (fun vs => match vs with | .int _ i :: _ => 32 - i.toNat | _ => 0) ⟨0, none, 0, by rw [List.take_zero]; rfl, by rw [List.take_zero], by omega⟩ (fun w hw => hw.addNilB 5) ?_
 rintro τ0 _ _  ⟨i, a1, c1, rfl, rfl, hi0⟩ _
 refine zS (T2 (Qmi rfl rfl (zy (Qt_lss rfl rfl) (TX (zC rfl (fun h6 => ?_) (fun h6 => ?_))))))
 ·
  have p6 := cL h6
  have hi : i < 32 := by omega
  refine zk (zx (zS (zB (zR (Qms rfl rfl (Qmi rfl rfl (zy (Qt_indexAddr_arr (sz := 1) rfl rfl Tryz.underlying32 rfl rfl (by omega) (by omega)) ?_)))))))
  have hcell : CellAt (hlist h).toArray (0 + ((i : Int)).toNat * 1) (.int .u8 (h[i].toNat : Int)) := ⟨by simp [hlist, bytesV, byteV, hi]⟩
  refine zy (zl rfl) (ze rfl (Ef_slice1 (v := .int .u8 (h[i].toNat : Int)) rfl (fun a13 c13 => ?_)))
  refine ze rfl (Ef_appendb (n := (h[i].toNat : Int)) (sv := .slice _ _ _) (xv := .slice _ _ _) rfl rfl ⟨by omega, by have := h[i].toNat_lt; omega⟩ (by simp; omega) rfl (fun a14 c14 => ?_))
  rw [u8Of_nat, toList_take h i hi]
  refine Qas rfl rfl (zz (X_block (zx (zR ?_))))
  refine Qmi rfl rfl (zy (zj rfl rfl) (Qai rfl rfl (zz (X_loop _ zA (⟨i + 1, a14, c14, rfl, rfl, by omega⟩) (by show 32 - (i + 1 : Int).toNat < 32 - (i : Int).toNat; omega) (SB)))))
 have p6 := cL h6
 have et : h.toList.take i = h.toList := List.take_of_length_le (by simp; omega)
 simp only [et]
 refine zY (zG (zW (zE (zx (T2 (Qms rfl rfl (Qas rfl rfl (TX (zQ ?_)))))))))
 exact zX ⟨a1, c1⟩ [_] Tryz.results116 ⟨rfl, trivial⟩ rfl SB
end Go.Proofs.YtnijomppbgdmnaaGreat
