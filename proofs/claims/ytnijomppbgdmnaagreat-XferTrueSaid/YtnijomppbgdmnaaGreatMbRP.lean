/- Walks: members of views, their number; the reference. -/
import Derived.Test.YtnijomppbgdmnaaGreatSgP
import Derived.Test.YtnijomppbgdmnaaGreatMsRP
import Derived.Test.YtnijomppbgdmnaaGreatCmRP
import Derived.Test.YtnijomppbgdmnaaGreatSesRP
set_option linter.unusedSimpArgs false
set_option linter.unusedVariables false
namespace Go.Proofs.YtnijomppbgdmnaaGreat
section
open Go.RowKit Go.Sx
set_option maxRecDepth 100000
set_option maxHeartbeats 1000000
/-- The members of a mask, rising. -/
def memF : Nat → Nat → List Nat
 | 0, _ => []
 | k + 1, n => (if n % 2 = 1 then [0] else []) ++ (memF k (n / 2)).map (· + 1)
def memK (n : Nat) : List Nat := (List.range 16).filter fun i => n.testBit i
theorem memF_eq : ∀ k n, memF k n = (List.range k).filter fun i => n.testBit i
 | 0, n => rfl
 | k + 1, n => by
  rw [memF, memF_eq k, List.range_succ_eq_map, List.filter_cons, List.filter_map]
  have e : (fun i => n.testBit i) ∘ Nat.succ = fun i => (n / 2).testBit i := by funext i; simp [Nat.testBit_succ]
  rw [e]
  by_cases h : n % 2 = 1 <;> simp [h, Nat.testBit_zero]
theorem memF_16 (n : Nat) : memF 16 n = memK n := memF_eq 16 n
theorem mem_memK {n i : Nat} : i ∈ memK n ↔ i < 16 ∧ n.testBit i = true := by simp [memK]
theorem memK_nodup (n : Nat) : (memK n).Nodup := List.Pairwise.filter _ List.nodup_range
theorem memF_split : ∀ j k n, memF (j + k) n = memF j (n % 2 ^ j) ++ (memF k (n / 2 ^ j)).map (· + j)
 | 0, k, n => by simp [memF]
 | j + 1, k, n => by
  rw [show j + 1 + k = (j + k) + 1 by omega, memF, memF, memF_split j k]
  have e1 : n % 2 ^ (j + 1) % 2 = n % 2 := Nat.mod_mod_of_dvd _ ⟨2 ^ j, by rw [Nat.pow_succ, Nat.mul_comm]⟩
  have e2 : n % 2 ^ (j + 1) / 2 = n / 2 % 2 ^ j := by rw [Nat.pow_succ, Nat.mul_comm, Nat.mod_mul_right_div_self]
  have e3 : n / 2 / 2 ^ j = n / 2 ^ (j + 1) := by rw [Nat.div_div_eq_div_mul, Nat.pow_succ, Nat.mul_comm]
  rw [e1, e2, e3, List.map_append, List.map_map, List.append_assoc]
  congr 3
theorem popB_mem : ∀ i < 256, popB i = (memF 8 i).length := by decide +kernel
theorem ones16_mem {n : Nat} (h : n < 65536) : ones16 n = (memK n).length := by
 rw [← memF_16, memF_split 8 8 n, List.length_append, List.length_map, ones16, popB_mem _ (by omega), popB_mem _ (by omega)]
 show _ = (memF 8 (n % 256)).length + (memF 8 (n / 256)).length
 rw [Nat.add_comm]
theorem quo_i64 (x k : Nat) (h : x ≤ 9223372036854775807) : IntKind.i64.wrap ((x : Int).tdiv (k : Int)) = ((x / k : Nat) : Int) := by
 have h1 : x / k ≤ x := Nat.div_le_self _ _
 rw [← Int.ofNat_tdiv]
 generalize x / k = q at *
 exact wrap_i64 (by omega) (by omega)
def quorumV (num : Int) (mk : Nat) : Nat := if sizeV num mk = 0 then 0 else (sizeV num mk + faultsV num mk) / 2 + 1
theorem hasV_nat {mk i : Nat} : hasV mk (i : Int) = true ↔ i ∈ memK mk := by
 rw [mem_memK, hasV, decide_eq_true_eq, Int.toNat_natCast, Nat.testBit_eq_decide_div_mod_eq, decide_eq_true_eq]
 omega
@[reducible] def encN (n : Nat) : List Value := [.int .i64 (n : Int)]
theorem encN_get (l : List Nat) (i : Nat) (h : i < l.length) : (l.flatMap encN)[i]? = some (.int .i64 (l[i] : Int)) := by
 have := flat_get encN 1 (fun _ => rfl) l i 0 h (by decide)
 simpa using this
theorem encN_len (l : List Nat) : (l.flatMap encN).length = l.length := by have := flat_len encN 1 (fun _ => rfl) l; simpa using this
attribute [local irreducible] popB
theorem memK_len (n : Nat) : (memK n).length ≤ 16 := by have h := List.length_filter_le (fun i => n.testBit i) (List.range 16); simpa [memK] using h
theorem quorum_v {w0 : World} {H : List SA} {num : Int} {mk : Nat} (hmk : mk < 65536) :
 CT Tryz.prog w0 (H) 147 [.agg (ViewV.mk num (mk : Int)).cells] (α := Unit) (fun _ => .int .i64 (quorumV num mk : Int)) (fun _ => H) := by
 refine CT_intro Tryz.func147 rfl Tryz.ntmps147 rfl (T2 (ze rfl (Ef_boxN rfl (fun b1 => ?_))))
 refine Qai rfl rfl (T4 (zy (zn rfl rfl) (ze rfl (zc (size_v hmk) rfl (fun x5 => ?_)))))
 refine Qai rfl rfl (TX (zS (T2 (Qmi rfl rfl (zy (Qt_eql rfl rfl) (TX (zC rfl (fun h7 => ?_) (fun h7 => ?_))))))))
 ·
  have p7 := cL h7
  refine T2 (Qai rfl rfl (TX (zQ (zr ?_))))
  have e : quorumV num mk = 0 := if_pos (by omega)
  exact zX () [_] Tryz.results147 ⟨rfl, trivial⟩ (by rw [e]; rfl) SB
 have p7 := cL h7
 refine S4 ?_
 have hsz := sizeV_le (num := num) hmk
 have hfa : faultsV num mk ≤ 16 := by unfold faultsV; omega
 refine Qmi rfl rfl (zy (zn rfl rfl) (ze rfl (zc (faults_v hmk) rfl (fun x10 => ?_))))
 refine zy (zj rfl rfl) (zy (Qt_quo rfl rfl (by omega)) ?_)
 rw [show IntKind.i64.wrap (((sizeV num mk : Int) + (faultsV num mk : Int)).tdiv 2) = (((sizeV num mk + faultsV num mk) / 2 : Nat) : Int) from by rw [← Int.natCast_add]; exact quo_i64 _ 2 (by omega)]
 refine zy (zj rfl rfl) (Qai rfl rfl (TX (zQ ?_)))
 have e : quorumV num mk = (sizeV num mk + faultsV num mk) / 2 + 1 := if_neg (by omega)
 exact zX () [_] Tryz.results147 ⟨rfl, trivial⟩ (by rw [e]; push_cast; rfl) SB
theorem mem_step (mk k : Nat) : (List.range (k + 1)).filter (fun i => mk.testBit i) = (List.range k).filter (fun i => mk.testBit i) ++ (if mk / 2 ^ k % 2 = 1 then [k] else []) := by
 rw [List.range_succ, List.filter_append]
 congr 1
 simp only [List.filter_cons, List.filter_nil, Nat.testBit_eq_decide_div_mod_eq, decide_eq_true_eq]

theorem rMembers_c {w0 : World} {H : List SA} {num : Int} {mk : Nat} (hmk : mk < 65536) :
 CT Tryz.prog w0 (H) 113 [.agg (ViewV.mk num (mk : Int)).cells] (α := AC) (fun y => .slice y.a (memK mk).length y.c) (fun y => row (.slice y.a (memK mk).length y.c) 3 1 ((memK mk).flatMap encN) :: H) := by
 refine CT_intro Tryz.func113 rfl Tryz.ntmps113 rfl (T2 (ze rfl (Ef_boxN rfl (fun b1 => ?_))))
 refine Qas rfl rfl (T4 (Qas rfl rfl (T4 (zy (zf 1 rfl rfl) (zy (zl rfl) (zy (Qt_conv_i64 rfl rfl Tryz.underlying3 (by omega) (by omega)) (Qai rfl rfl (TX (zS (T2 (Qai rfl rfl (TX (zB ?_)))))))))))))
 refine T_loop [3, 4, 5, 9, 10, 11, 12, 13, 14, 15, 16, 17, 18, 19, 20, 21] [5, 4, 3] (fun us H' => ∃ (k : Nat) (a : Option Addr) (c : Nat) (out : List Nat), us = [.int .i64 (k : Int), .int .i64 ((mk / 2 ^ k : Nat) : Int), .slice a out.length c] ∧ row (.slice a (out).length c) 3 1 ((out).flatMap encN) :: blk b1 (.cells (ViewV.mk num (mk : Int)).cells 24 (0, 0)) :: H = H' ∧ k ≤ 16 ∧ (out = (List.range k).filter (fun i => mk.testBit i))) (fun us => match us with | .int _ i :: _ => 16 - i.toNat | _ => 0) ⟨0, none, 0, [], by rw [Nat.pow_zero, Nat.div_one]; rfl, rfl, by omega, rfl⟩ (fun w hw => by
  have h0 : St w0 (blk b1 (.cells (ViewV.mk num (mk : Int)).cells 24 (0, 0)) :: H) w := SB w hw
  exact h0.addNil 3 1) ?_
 rintro τ0 _ _  ⟨k, a, c, out, rfl, rfl, hk0, ho⟩ _
 refine zS (T2 (Qmi rfl rfl (zy (Qt_lss rfl rfl) (TX (zC rfl (fun h10 => ?_) (fun h10 => ?_))))))
 ·
  have p10 := cL h10
  have hle : mk / 2 ^ k ≤ mk := Nat.div_le_self _ _
  refine zk (zx (zS (zB (zS (T2 (Qmi rfl rfl (zy (Qt_val (Qt_rem rfl rfl (by decide)) (congrArg (Value.int .i64) (rem_nat (mk / 2 ^ k) 2))) (zy (Qt_eql rfl rfl) (TX (zC rfl (fun h15 => ?_) (fun h15 => ?_)))))))))))
  ·
   have p15 := cL h15
   have hb : (List.range (k + 1)).filter (fun i => mk.testBit i) = out ++ [k] := by rw [mem_step, if_pos (by omega), ho]
   refine zR (Qms rfl rfl (Qmi rfl rfl (ze rfl (Ef_sliceN (m := ([k] : List Nat).length) [.int .i64 ((k : Nat) : Int)] (([k] : List Nat).flatMap encN) rfl rfl rfl rfl (by simp [Value.cells]) rfl rfl (fun a18 c18 => ?_)))))
   refine ze rfl (Ef_appendS encN (sv := .slice _ _ _) (xv := .slice _ _ _) (xs := out) (ys := ([k] : List Nat)) (fun _ => rfl) (fun _ => rfl) rfl rfl (by have : (out).length ≤ 16 := (by rw [ho]; have := List.length_filter_le (fun i => mk.testBit i) (List.range k); rw [List.length_range] at this; omega); simp; omega) rfl rfl (fun a19 c19 => ?_))
   refine Qas rfl rfl (TX (zR (Qmi rfl rfl (zy (Qt_val (Qt_quo rfl rfl (by decide)) (congrArg (Value.int .i64) ((quo_i64 (mk / 2 ^ k) 2 (by omega)).trans (congrArg (fun n : Nat => (n : Int)) (show mk / 2 ^ k / 2 = mk / 2 ^ (k + 1) from by rw [Nat.div_div_eq_div_mul, ← Nat.pow_succ]))))) (Qai rfl rfl (zz (X_block (zx (zR ?_)))))))))
   refine Qmi rfl rfl (zy (zj rfl rfl) (Qai rfl rfl (zz ?_)))
   apply X_loop
   case ha => exact zA
   case hI => exact by first | exact ⟨k + 1, a19, c19, out ++ [k], rfl, rfl, by omega, hb.symm⟩ | exact ⟨k + 1, a, c, out, rfl, rfl, by omega, hb.symm⟩
   case hm => exact by show 16 - (k + 1 : Int).toNat < 16 - (k : Int).toNat; omega
   case hH => exact SB
  have p15 := cL h15
  have hb : (List.range (k + 1)).filter (fun i => mk.testBit i) = out := by rw [mem_step, if_neg (by omega), ho, List.append_nil]
  refine zk (zx (zR (Qmi rfl rfl (zy (Qt_val (Qt_quo rfl rfl (by decide)) (congrArg (Value.int .i64) ((quo_i64 (mk / 2 ^ k) 2 (by omega)).trans (congrArg (fun n : Nat => (n : Int)) (show mk / 2 ^ k / 2 = mk / 2 ^ (k + 1) from by rw [Nat.div_div_eq_div_mul, ← Nat.pow_succ]))))) (Qai rfl rfl (zz (X_block (zx (zR ?_)))))))))
  refine Qmi rfl rfl (zy (zj rfl rfl) (Qai rfl rfl (zz ?_)))
  apply X_loop
  case ha => exact zA
  case hI => exact by first | exact ⟨k + 1, a19, c19, out ++ [k], rfl, rfl, by omega, hb.symm⟩ | exact ⟨k + 1, a, c, out, rfl, rfl, by omega, hb.symm⟩
  case hm => exact by show 16 - (k + 1 : Int).toNat < 16 - (k : Int).toNat; omega
  case hH => exact SB
 have p10 := cL h10
 have hk16 : k = 16 := by omega
 subst hk16
 have hs2 : out = memK mk := ho
 subst hs2
 refine zY (zG (zW (zE (zx (T2 (Qms rfl rfl (Qas rfl rfl (TX (zQ ?_)))))))))
 exact zX ⟨a, c⟩ [_] Tryz.results113 ⟨rfl, trivial⟩ rfl SB
end
section
open Go.RowKit Go.Sx
set_option maxRecDepth 100000
set_option maxHeartbeats 1000000
theorem sizeV_range {num : Int} {mk : Nat} : sizeV num mk = 0 ∨ (4 ≤ sizeV num mk ∧ sizeV num mk ≤ 7) := by
 unfold sizeV
 split
 · rename_i h; simp only [rightV, decide_eq_true_eq] at h; omega
 · exact .inl rfl
theorem rRight_c {w0 : World} {H : List SA} {num : Int} {mk : Nat} (hmk : mk < 65536) :
 CT Tryz.prog w0 (H) 112 [.agg (ViewV.mk num (mk : Int)).cells] (α := Unit) (fun _ => .bool (rightV num mk)) (fun _ => H) := by
 refine CT_intro Tryz.func112 rfl Tryz.ntmps112 rfl (T2 (ze rfl (Ef_boxN rfl (fun b1 => ?_))))
 refine Qab rfl rfl (T4 (zy (zn rfl rfl) (ze rfl (zc (rMembers_c (num := num) hmk) rfl (fun x5 => ?_)))))
 have hones := ones16_mem hmk
 refine zy (zL rfl Tryz.underlying95) (Qai rfl rfl (T4 (zy (zf 0 rfl rfl) (zy (zl rfl) (zy (Qt_geq rfl rfl) (Qmb rfl rfl (TL_split 10 rfl (fun h10 => ?_) (fun h10 => ?_))))))))
 ·
  have p10 := cL h10
  refine zt rfl rfl h10 (zy (zf 0 rfl rfl) (zt rfl rfl h10 (zy (zl rfl) (zt rfl rfl h10 (zy (Qt_leq rfl rfl) (zy (zT (.bool _) rfl h10 rfl) (Qmb rfl rfl (TL_split 15 rfl (fun h15 => ?_) (fun h15 => ?_)))))))))
  ·
   have p15 := cL h15
   refine zt rfl rfl h15 (Qmi rfl rfl (zt rfl rfl h15 (zy (Qt_geq rfl rfl) (zy (zT (.bool _) rfl h15 rfl) (Qmb rfl rfl (TL_split 19 rfl (fun h19 => ?_) (fun h19 => ?_)))))))
   ·
    have p19 := cL h19
    refine zt rfl rfl h19 (Qmi rfl rfl (zt rfl rfl h19 (zy (Qt_leq rfl rfl) (zy (zT (.bool _) rfl h19 rfl) (Qab rfl rfl (TX (zQ (zX () [.bool (rightV num mk)] Tryz.results112 ⟨(congrArg Value.bool ?_), trivial⟩ rfl SB))))))))
    rw [Bool.eq_iff_iff]
    simp only [rightV, decide_eq_true_eq, Bool.false_eq_true, false_iff]
    omega
   have p19 := cL h19
   refine zp rfl rfl h19 rfl (zp rfl rfl h19 rfl (zy (zF (.bool _) rfl h19 rfl) (Qab rfl rfl (TX (zQ (zX () [.bool (rightV num mk)] Tryz.results112 ⟨(congrArg Value.bool ?_), trivial⟩ rfl SB))))))
   rw [Bool.eq_iff_iff]
   simp only [rightV, decide_eq_true_eq, Bool.false_eq_true, false_iff]
   omega
  have p15 := cL h15
  refine zp rfl rfl h15 rfl (zp rfl rfl h15 rfl (zy (zF (.bool _) rfl h15 rfl) (Qmb rfl rfl (zo (zo (zy (zF (.bool _) rfl rfl rfl) (Qab rfl rfl (TX (zQ (zX () [.bool (rightV num mk)] Tryz.results112 ⟨(congrArg Value.bool ?_), trivial⟩ rfl SB))))))))))
  rw [Bool.eq_iff_iff]
  simp only [rightV, decide_eq_true_eq, Bool.false_eq_true, false_iff]
  omega
 have p10 := cL h10
 refine zp rfl rfl h10 rfl (zp rfl rfl h10 rfl (zp rfl rfl h10 rfl (zy (zF (.bool _) rfl h10 rfl) (Qmb rfl rfl (zo (zo (zy (zF (.bool _) rfl rfl rfl) (Qmb rfl rfl (zo (zo (zy (zF (.bool _) rfl rfl rfl) (Qab rfl rfl (TX (zQ ?_))))))))))))))
 refine zX () [.bool (rightV num mk)] Tryz.results112 ⟨(congrArg Value.bool ?_), trivial⟩ rfl SB
 rw [Bool.eq_iff_iff]
 simp only [rightV, decide_eq_true_eq, Bool.false_eq_true, false_iff]
 omega
theorem rSize_c {w0 : World} {H : List SA} {num : Int} {mk : Nat} (hmk : mk < 65536) :
 CT Tryz.prog w0 (H) 69 [.agg (ViewV.mk num (mk : Int)).cells] (α := Unit) (fun _ => .int .i64 (sizeV num mk : Int)) (fun _ => H) := by
 refine CT_intro Tryz.func69 rfl Tryz.ntmps69 rfl (T2 (ze rfl (Ef_boxN rfl (fun b1 => ?_))))
 refine Qai rfl rfl (TX (zS (T2 (zy (zn rfl rfl) (ze rfl (zc (rRight_c hmk) rfl (fun x4 => ?_)))))))
 refine zy (Qt_not rfl) (TX (zC rfl (fun h5 => ?_) (fun h5 => ?_)))
 ·
  have p5 := cL h5
  refine T2 (Qai rfl rfl (TX (zQ (zr ?_))))
  have e : sizeV num mk = 0 := if_neg (by simp_all)
  exact zX () [_] Tryz.results69 ⟨rfl, trivial⟩ (by rw [e]; rfl) SB
 have p5 := cL h5
 refine S4 (zy (zn rfl rfl) (ze rfl (zc (rMembers_c (num := num) hmk) rfl (fun x7 => ?_))))
 refine zy (zL rfl Tryz.underlying95) (Qai rfl rfl (TX (zQ ?_)))
 have e : sizeV num mk = (memK mk).length := by rw [sizeV, if_pos (by simp_all), ones16_mem hmk]
 exact zX () [_] Tryz.results69 ⟨rfl, trivial⟩ (by rw [e]; rfl) SB
theorem rFaults_c {w0 : World} {H : List SA} {num : Int} {mk : Nat} (hmk : mk < 65536) :
 CT Tryz.prog w0 (H) 70 [.agg (ViewV.mk num (mk : Int)).cells] (α := Unit) (fun _ => .int .i64 (faultsV num mk : Int)) (fun _ => H) := by
 refine CT_intro Tryz.func70 rfl Tryz.ntmps70 rfl (T2 (ze rfl (Ef_boxN rfl (fun b1 => ?_))))
 refine Qai rfl rfl (T4 (zy (zn rfl rfl) (ze rfl (zc (rSize_c hmk) rfl (fun x5 => ?_)))))
 have hsr := sizeV_range (num := num) (mk := mk)
 refine Qai rfl rfl (TX (zS (T2 (Qmi rfl rfl (zy (Qt_eql rfl rfl) (TX (zC rfl (fun h7 => ?_) (fun h7 => ?_))))))))
 ·
  have p7 := cL h7
  refine T2 (Qai rfl rfl (TX (zQ (zr ?_))))
  have e : faultsV num mk = 2 := by unfold faultsV; omega
  exact zX () [_] Tryz.results70 ⟨rfl, trivial⟩ (by rw [e]; rfl) SB
 have p7 := cL h7
 refine zk (zx (zS (T2 (Qmi rfl rfl (zy (Qt_geq rfl rfl) (TX (zC rfl (fun h9 => ?_) (fun h9 => ?_))))))))
 ·
  have p9 := cL h9
  refine T2 (Qai rfl rfl (TX (zQ (zr ?_))))
  have e : faultsV num mk = 1 := by unfold faultsV; omega
  exact zX () [_] Tryz.results70 ⟨rfl, trivial⟩ (by rw [e]; rfl) SB
 have p9 := cL h9
 refine S4 (Qai rfl rfl (TX (zQ ?_)))
 have e : faultsV num mk = 0 := by unfold faultsV; omega
 exact zX () [_] Tryz.results70 ⟨rfl, trivial⟩ (by rw [e]; rfl) SB
theorem rQuorum_c {w0 : World} {H : List SA} {num : Int} {mk : Nat} (hmk : mk < 65536) :
 CT Tryz.prog w0 (H) 118 [.agg (ViewV.mk num (mk : Int)).cells] (α := Unit) (fun _ => .int .i64 (quorumV num mk : Int)) (fun _ => H) := by
 refine CT_intro Tryz.func118 rfl Tryz.ntmps118 rfl (T2 (ze rfl (Ef_boxN rfl (fun b1 => ?_))))
 refine Qai rfl rfl (TX (zS (T2 (zy (zn rfl rfl) (ze rfl (zc (rSize_c hmk) rfl (fun x4 => ?_)))))))
 refine zy (Qt_eql rfl rfl) (TX (zC rfl (fun h5 => ?_) (fun h5 => ?_)))
 ·
  have p5 := cL h5
  refine T2 (Qai rfl rfl (TX (zQ (zr ?_))))
  have e : quorumV num mk = 0 := if_pos (by omega)
  exact zX () [_] Tryz.results118 ⟨rfl, trivial⟩ (by rw [e]; rfl) SB
 have p5 := cL h5
 refine zk (zx (zS (zD (blk b1 (.cells (ViewV.mk num (mk : Int)).cells 24 (0, 0)) :: H) [(0, true), (2, true), (1, false), (3, false), (4, true), (5, true), (6, true), (7, true)] SB (fun hns0 => ?_))))
 refine zd hns0 rfl (zn rfl rfl) rfl (zd hns0 rfl (zn rfl rfl) rfl (DL_e rfl rfl (zc (rSize_c hmk) rfl (fun x7 => ⟨SB, ?_⟩))))
 refine DL_e rfl rfl (zc (rFaults_c hmk) rfl (fun x9 => ⟨SB, ?_⟩))
 have hsz := sizeV_le (num := num) hmk
 have hfa : faultsV num mk ≤ 16 := by unfold faultsV; omega
 refine zd hns0 rfl (zj rfl rfl) rfl (zd hns0 rfl (Qt_quo rfl rfl (by omega)) rfl ?_)
 rw [show IntKind.i64.wrap (((sizeV num mk : Int) + (faultsV num mk : Int)).tdiv 2) = (((sizeV num mk + faultsV num mk) / 2 : Nat) : Int) from by rw [← Int.natCast_add]; exact quo_i64 _ 2 (by omega)]
 refine zd hns0 rfl (zj rfl rfl) rfl (zd hns0 rfl (za (.int .i64 _) rfl) rfl (DL_nil (zx (zQ ?_))))
 have e : quorumV num mk = (sizeV num mk + faultsV num mk) / 2 + 1 := if_neg (by omega)
 exact zX () [_] Tryz.results118 ⟨rfl, trivial⟩ (by rw [e]; push_cast; rfl) SB
theorem rHas_c {w0 : World} {H : List SA} {num : Int} {mk : Nat} (hmk : mk < 65536) {i : Int} :
 CT Tryz.prog w0 (H) 72 [.agg (ViewV.mk num (mk : Int)).cells, .int .i64 i] (α := Unit) (fun _ => .bool (hasV mk i)) (fun _ => H) := by
 refine CT_intro Tryz.func72 rfl Tryz.ntmps72 rfl (T2 (ze rfl (Ef_boxN rfl (fun b2 => ?_))))
 refine Qab rfl rfl (T4 (zy (zn rfl rfl) (ze rfl (zc (rMembers_c (num := num) hmk) rfl (fun x8 => ?_)))))
 have hml := memK_len mk
 refine Qas rfl rfl (TX (zS (T2 (Qai rfl rfl (TX (zB ?_))))))
 refine T_loop [4, 6, 9, 10, 11, 12, 13, 14, 15, 16, 17, 18, 19, 20] [6] (fun us H' => ∃ (k : Nat), us = [.int .i64 (k : Int)] ∧ row (.slice x8.a (memK mk).length x8.c) 3 1 ((memK mk).flatMap encN) :: blk b2 (.cells (ViewV.mk num (mk : Int)).cells 24 (0, 0)) :: H = H' ∧ k ≤ (memK mk).length ∧ (∀ (j : Nat) (hj : j < (memK mk).length), j < k → ((memK mk)[j] : Int) ≠ i)) (fun us => match us with | .int _ i :: _ => (memK mk).length - i.toNat | _ => 0) ⟨0, rfl, rfl, by omega, fun j _ h => by omega⟩ SB ?_
 rintro τ0 _ _  ⟨k, rfl, rfl, hk0, hno⟩ _
 refine zS (T2 (Qmi rfl rfl (Qms rfl rfl (zy (zL rfl Tryz.underlying95) (zy (Qt_lss rfl rfl) (TX (zC rfl (fun h12 => ?_) (fun h12 => ?_))))))))
 ·
  have p12 := cL h12
  have hk : k < (memK mk).length := by omega
  refine zk (zx (zS (zB (T2 (Qms rfl rfl (Qmi rfl rfl (zy (Qt_indexR rfl rfl (by omega) (by rw [encN_len]; omega)) (zy (Qt_loadR (.int .i64 ((memK mk)[k] : Int)) rfl (encN_get _ k hk)) (Qmi rfl rfl (zy (Qt_eql rfl rfl) (TX (zC rfl (fun h20 => ?_) (fun h20 => ?_)))))))))))))
  ·
   have p20 := cL h20
   refine T2 (Qab rfl rfl (TX (zQ (zb (zr (X_loop_ret (zb (zr ?_))))))))
   have e : hasV mk i = true := by rw [show i = ((memK mk)[k] : Int) by omega]; exact hasV_nat.2 (List.getElem_mem hk)
   exact zX () [_] Tryz.results72 ⟨rfl, trivial⟩ (by rw [e]; rfl) SB
  have p20 := cL h20
  refine zk (X_block (zx (zR (Qmi rfl rfl (zy (zj rfl rfl) (Qai rfl rfl (zz ?_)))))))
  apply X_loop
  case ha => exact zA
  case hI => exact ⟨k + 1, rfl, rfl, by omega, fun j hj h => by rcases Nat.lt_or_ge j k with h1 | h1; exact hno j hj h1; obtain rfl : j = k := (by omega); omega⟩
  case hm => exact by show (memK mk).length - (k + 1 : Int).toNat < (memK mk).length - (k : Int).toNat; omega
  case hH => exact SB
 have p12 := cL h12
 refine zY (zG (zW (zE (zx (T2 (Qab rfl rfl (TX (zQ ?_))))))))
 have e : hasV mk i = false := by
  rw [Bool.eq_false_iff]
  intro h
  have h0 : 0 ≤ i := by simp only [hasV, decide_eq_true_eq] at h; omega
  obtain ⟨n, rfl⟩ := Int.eq_ofNat_of_zero_le h0
  obtain ⟨j, hj, he⟩ := List.getElem_of_mem (hasV_nat.1 h)
  exact hno j hj (by omega) (by rw [he])
 exact zX () [_] Tryz.results72 ⟨rfl, trivial⟩ (by rw [e]; rfl) SB
end
section
open Go.RowKit Go.Sx
set_option maxRecDepth 100000
set_option maxHeartbeats 1000000
/-- The message that a part opens to: none is one of zeros. -/
def opn (K : List (List UInt8)) (mk : Nat) (l : List UInt8) : MsgD := (openOfK K mk l).2
theorem openK_zero {K : List (List UInt8)} {l : List UInt8} (h : (openK K l).1 ≠ 0) : (openK K l).2 = .zero := by
 unfold openK at h ⊢
 split
 · rfl
 · split
   · rfl
   · split
     · rfl
     · split
       · rfl
       · rename_i h1 h2 h3 h4; rw [if_neg h1, if_neg h2, if_neg h3, if_neg h4] at h; exact absurd rfl h
theorem opn_zero {K : List (List UInt8)} {mk : Nat} {l : List UInt8} (h : (openOfK K mk l).1 ≠ 0) : opn K mk l = .zero := by
 unfold opn openOfK at *
 split
 · rfl
 · rename_i h1; rw [if_neg h1] at h; exact openK_zero h
theorem openK_formed {K : List (List UInt8)} {l : List UInt8} (h : (openK K l).1 = 0) : formedM (openK K l).2 = true := by
 unfold openK at h ⊢
 split at h
 · cases h
 · rename_i h1
   rw [if_neg h1]
   split at h
   · rename_i h2; exact absurd h h2
   · rename_i h2
     rw [if_neg h2]
     split at h
     · cases h
     · rename_i h3
       rw [if_neg h3]
       split at h
       · cases h
       · rename_i h4; rw [if_neg h4]; exact getM_formed (by simpa using h2)
theorem opn_ok {K : List (List UInt8)} {mk : Nat} {l : List UInt8} (h : (openOfK K mk l).1 = 0) : formedM (opn K mk l) = true ∧ hasV mk (opn K mk l).frm = true := by
 unfold opn openOfK at *
 split at h
 · cases h
 · rename_i h1
   rw [if_neg h1]
   exact ⟨openK_formed h, by simpa [h] using h1⟩
theorem opn_frm (K : List (List UInt8)) (mk : Nat) (l : List UInt8) : 0 ≤ (opn K mk l).frm ∧ (opn K mk l).frm < 16 := by
 by_cases h : (openOfK K mk l).1 = 0
 · have := (opn_ok h).1
   have := frm_range this
   omega
 · rw [opn_zero h]; exact ⟨Int.le_refl _, by decide⟩
def cntD (num : Int) (m v : MsgD) : Bool := decide (v.kind = m.kind ∧ v.kind ≠ 0 ∧ v.view = num ∧ m.view = num ∧ v.reg = m.reg ∧ v.slot = m.slot ∧ v.hash = m.hash)
def setD (num : Int) (m : MsgD) (L : List MsgD) : Nat := L.foldl (fun s v => if cntD num m v = true then s ||| 2 ^ v.frm.toNat else s) 0
theorem setD_snoc (num : Int) (m : MsgD) (L : List MsgD) (v : MsgD) : setD num m (L ++ [v]) = if cntD num m v = true then setD num m L ||| 2 ^ v.frm.toNat else setD num m L := by simp [setD, List.foldl_append]
theorem setD_take (num : Int) (m : MsgD) (L : List MsgD) (k : Nat) (h : k < L.length) : setD num m (L.take (k + 1)) = if cntD num m L[k] = true then setD num m (L.take k) ||| 2 ^ L[k].frm.toNat else setD num m (L.take k) := by
 rw [List.take_succ_eq_append_getElem h, setD_snoc]
theorem setD_bit {num : Int} {m : MsgD} {L : List MsgD} {i : Nat} : (setD num m L).testBit i = true ↔ ∃ v ∈ L, cntD num m v = true ∧ v.frm.toNat = i := by
 suffices h : ∀ (L : List MsgD) (s : Nat), (L.foldl (fun s v => if cntD num m v = true then s ||| 2 ^ v.frm.toNat else s) s).testBit i = true ↔ s.testBit i = true ∨ ∃ v ∈ L, cntD num m v = true ∧ v.frm.toNat = i by
  rw [setD, h]; simp
 intro L
 induction L with
 | nil => intro s; simp
 | cons v L ih =>
  intro s
  rw [List.foldl_cons, ih]
  by_cases hc : cntD num m v = true
  · rw [if_pos hc, Nat.testBit_or, Nat.testBit_two_pow]
    simp only [Bool.or_eq_true, decide_eq_true_eq, List.mem_cons, exists_eq_or_imp, hc, true_and, or_assoc]
  · simp [hc]
theorem or_lt {s f : Nat} (hs : s < 65536) (hf : f < 16) : s ||| 2 ^ f < 65536 := Nat.or_lt_two_pow (n := 16) hs (Nat.pow_lt_pow_right (by decide) hf)
theorem setD_lt {num : Int} {m : MsgD} (L : List MsgD) (hL : ∀ v ∈ L, 0 ≤ v.frm ∧ v.frm < 16) : setD num m L < 65536 := by
 suffices h : ∀ (L : List MsgD) (s : Nat), (∀ v ∈ L, 0 ≤ v.frm ∧ v.frm < 16) → s < 65536 → L.foldl (fun s v => if cntD num m v = true then s ||| 2 ^ v.frm.toNat else s) s < 65536 from h L 0 hL (by decide)
 intro L
 induction L with
 | nil => intro s _ h; exact h
 | cons v L ih =>
  intro s hL hs
  rw [List.foldl_cons]
  refine ih _ (fun v hv => hL v (List.mem_cons_of_mem _ hv)) ?_
  split
  · exact or_lt hs (by have := hL v (List.mem_cons_self ..); omega)
  · exact hs
def enoughD (num : Int) (mk : Nat) (m : MsgD) (L : List MsgD) : Bool := decide (quorumV num mk ≤ ones16 (setD num m L))
def wMsg (kind num reg slot : Int) (h : Vector UInt8 32) : MsgD := ⟨kind, 0, num, reg, slot, h, [], []⟩
def decidD (K : List (List UInt8)) (num : Int) (mk : Nat) (slot : Int) (h : Vector UInt8 32) (P : List (List UInt8)) : Int × Int :=
 if rightV num mk = true ∧ P.length ≤ 16 then match (List.range 41).find? fun r : Nat => enoughD num mk (wMsg 3 num (r : Int) slot h) (P.map (opn K mk)) with | some r => ((r : Int), 0) | none => (0, 12) else (0, 12)
theorem find_range {p : Nat → Bool} {n k : Nat} (hn : k < n) (h : ∀ i < k, p i = false) (hk : p k = true) : (List.range n).find? p = some k := by
 rw [List.find?_eq_some_iff_getElem]
 exact ⟨hk, k, by simpa using hn, by simp, fun j hj => by simp [h j hj]⟩
theorem find_range_none {p : Nat → Bool} {n : Nat} (h : ∀ i < n, p i = false) : (List.range n).find? p = none := by
 rw [List.find?_eq_none]; intro x hx; simp [h x (by simpa using hx)]
theorem frm_map {ms : List MsgV} {K : List (List UInt8)} {mk : Nat} {P : List (List UInt8)} (h : ms.map MsgV.abs = P.map (opn K mk)) : ∀ v ∈ ms, 0 ≤ v.frm ∧ v.frm < 16 := fun v hv => by
 have : v.abs ∈ P.map (opn K mk) := by rw [← h]; exact List.mem_map.2 ⟨v, hv, rfl⟩
 obtain ⟨l, -, hl⟩ := List.mem_map.1 this
 have := opn_frm K mk l
 rw [hl] at this
 exact this
theorem frm_abs {ms : List MsgV} (h : ∀ v ∈ ms, 0 ≤ v.frm ∧ v.frm < 16) : ∀ v ∈ ms.map MsgV.abs, 0 ≤ v.frm ∧ v.frm < 16 := fun v hv => by
 obtain ⟨u, hu, rfl⟩ := List.mem_map.1 hv
 exact h u hu
attribute [local irreducible] openOfK openK getM tagOf popB
theorem counts_c {w0 : World} {H : List SA} {num : Int} {mk : Nat} {m v : MsgV} :
 CT Tryz.prog w0 (H) 175 [.agg (ViewV.mk num (mk : Int)).cells, .agg m.cells, .agg v.cells] (α := Unit) (fun _ => .bool (cntD num m.abs v.abs)) (fun _ => H) := by
 refine CT_intro Tryz.func175 rfl Tryz.ntmps175 rfl (T2 (ze rfl (Ef_boxN rfl (fun b3 => ?_))))
 refine ze rfl (Ef_boxN rfl (fun b4 => ?_))
 refine ze rfl (Ef_boxN rfl (fun b5 => ?_))
 refine Qab rfl rfl (T4 (zy (zf 0 rfl rfl) (zy (zl rfl) (zy (zf 0 rfl rfl) (zy (zl rfl) (zy (Qt_eql rfl rfl) (Qmb rfl rfl (TL_split 12 rfl (fun h12 => ?_) (fun h12 => ?_)))))))))
 ·
  have p12 := cL h12
  refine zt rfl rfl h12 (zy (zf 0 rfl rfl) (zt rfl rfl h12 (zy (zl rfl) (zt rfl rfl h12 (zy (Qt_neq rfl rfl) (zy (zT (.bool _) rfl h12 rfl) (Qmb rfl rfl (TL_split 17 rfl (fun h17 => ?_) (fun h17 => ?_)))))))))
  ·
   have p17 := cL h17
   refine zt rfl rfl h17 (zy (zf 2 rfl rfl) (zt rfl rfl h17 (zy (zl rfl) (zt rfl rfl h17 (zy (zf 0 rfl rfl) (zt rfl rfl h17 (zy (zl rfl) (zt rfl rfl h17 (zy (Qt_eql rfl rfl) (zy (zT (.bool _) rfl h17 rfl) (Qmb rfl rfl ?_)))))))))))
   refine TL_split 24 rfl (fun h24 => ?_) (fun h24 => ?_)
   ·
    have p24 := cL h24
    refine zt rfl rfl h24 (zy (zf 2 rfl rfl) (zt rfl rfl h24 (zy (zl rfl) (zt rfl rfl h24 (zy (zf 0 rfl rfl) (zt rfl rfl h24 (zy (zl rfl) (zt rfl rfl h24 (zy (Qt_eql rfl rfl) (zy (zT (.bool _) rfl h24 rfl) (Qmb rfl rfl ?_)))))))))))
    refine TL_split 31 rfl (fun h31 => ?_) (fun h31 => ?_)
    ·
     have p31 := cL h31
     refine zt rfl rfl h31 (zy (zf 3 rfl rfl) (zt rfl rfl h31 (zy (zl rfl) (zt rfl rfl h31 (zy (zf 3 rfl rfl) (zt rfl rfl h31 (zy (zl rfl) (zt rfl rfl h31 (zy (Qt_eql rfl rfl) (zy (zT (.bool _) rfl h31 rfl) (Qmb rfl rfl ?_)))))))))))
     refine TL_split 38 rfl (fun h38 => ?_) (fun h38 => ?_)
     ·
      have p38 := cL h38
      refine zt rfl rfl h38 (zy (zf 4 rfl rfl) (zt rfl rfl h38 (zy (zl rfl) (zt rfl rfl h38 (zy (zf 4 rfl rfl) (zt rfl rfl h38 (zy (zl rfl) (zt rfl rfl h38 (zy (Qt_eql rfl rfl) (zy (zT (.bool _) rfl h38 rfl) (Qmb rfl rfl ?_)))))))))))
      refine TL_split 45 rfl (fun h45 => ?_) (fun h45 => ?_)
      ·
       have p45 := cL h45
       refine zt rfl rfl h45 (zy (zf 5 rfl rfl) (zt rfl rfl h45 (zy (zn rfl rfl) (zt rfl rfl h45 (zy (zf 5 rfl rfl) (zt rfl rfl h45 (zy (zn rfl rfl) (zt rfl rfl h45 (zy (Qt_agg_eql rfl rfl (by kernel_rfl)) (zy (zT (.bool _) rfl h45 rfl) (Qab rfl rfl ?_)))))))))))
       refine TX (zQ (zX () [.bool (cntD num m.abs v.abs)] Tryz.results175 ⟨(congrArg Value.bool ?_), trivial⟩ rfl SB))
       rw [Bool.eq_iff_iff]
       simp only [cntD, MsgV.abs, decide_eq_true_eq, Bool.false_eq_true, false_iff]
       first | (simp_all; done) | (simp_all; omega)
      have p45 := cL h45
      refine zp rfl rfl h45 rfl (zp rfl rfl h45 rfl (zp rfl rfl h45 rfl (zp rfl rfl h45 rfl (zp rfl rfl h45 rfl (zy (zF (.bool _) rfl h45 rfl) (Qab rfl rfl (TX (zQ (zX () [.bool (cntD num m.abs v.abs)] Tryz.results175 ⟨(congrArg Value.bool ?_), trivial⟩ rfl SB)))))))))
      rw [Bool.eq_iff_iff]
      simp only [cntD, MsgV.abs, decide_eq_true_eq, Bool.false_eq_true, false_iff]
      first | (simp_all; done) | (simp_all; omega)
     have p38 := cL h38
     refine zp rfl rfl h38 rfl (zp rfl rfl h38 rfl (zp rfl rfl h38 rfl (zp rfl rfl h38 rfl (zp rfl rfl h38 rfl (zy (zF (.bool _) rfl h38 rfl) (Qmb rfl rfl (zo (zo (zo (zo (zo (zy (zF (.bool _) rfl rfl rfl) (Qab rfl rfl (TX (zQ ?_)))))))))))))))
     refine zX () [.bool (cntD num m.abs v.abs)] Tryz.results175 ⟨(congrArg Value.bool ?_), trivial⟩ rfl SB
     rw [Bool.eq_iff_iff]
     simp only [cntD, MsgV.abs, decide_eq_true_eq, Bool.false_eq_true, false_iff]
     first | (simp_all; done) | (simp_all; omega)
    have p31 := cL h31
    refine zp rfl rfl h31 rfl (zp rfl rfl h31 rfl (zp rfl rfl h31 rfl (zp rfl rfl h31 rfl (zp rfl rfl h31 rfl (zy (zF (.bool _) rfl h31 rfl) (Qmb rfl rfl (zo (zo (zo (zo (zo (zy (zF (.bool _) rfl rfl rfl) (Qmb rfl rfl (zo (zo (zo (zo ?_)))))))))))))))))
    refine zo (zy (zF (.bool _) rfl rfl rfl) (Qab rfl rfl (TX (zQ (zX () [.bool (cntD num m.abs v.abs)] Tryz.results175 ⟨(congrArg Value.bool ?_), trivial⟩ rfl SB)))))
    rw [Bool.eq_iff_iff]
    simp only [cntD, MsgV.abs, decide_eq_true_eq, Bool.false_eq_true, false_iff]
    first | (simp_all; done) | (simp_all; omega)
   have p24 := cL h24
   refine zp rfl rfl h24 rfl (zp rfl rfl h24 rfl (zp rfl rfl h24 rfl (zp rfl rfl h24 rfl (zp rfl rfl h24 rfl (zy (zF (.bool _) rfl h24 rfl) (Qmb rfl rfl (zo (zo (zo (zo (zo (zy (zF (.bool _) rfl rfl rfl) (Qmb rfl rfl (zo (zo (zo (zo ?_)))))))))))))))))
   refine zo (zy (zF (.bool _) rfl rfl rfl) (Qmb rfl rfl (zo (zo (zo (zo (zo (zy (zF (.bool _) rfl rfl rfl) (Qab rfl rfl (TX (zQ (zX () [.bool (cntD num m.abs v.abs)] Tryz.results175 ⟨(congrArg Value.bool ?_), trivial⟩ rfl SB))))))))))))
   rw [Bool.eq_iff_iff]
   simp only [cntD, MsgV.abs, decide_eq_true_eq, Bool.false_eq_true, false_iff]
   first | (simp_all; done) | (simp_all; omega)
  have p17 := cL h17
  refine zp rfl rfl h17 rfl (zp rfl rfl h17 rfl (zp rfl rfl h17 rfl (zp rfl rfl h17 rfl (zp rfl rfl h17 rfl (zy (zF (.bool _) rfl h17 rfl) (Qmb rfl rfl (zo (zo (zo (zo (zo (zy (zF (.bool _) rfl rfl rfl) (Qmb rfl rfl (zo (zo (zo (zo ?_)))))))))))))))))
  refine zo (zy (zF (.bool _) rfl rfl rfl) (Qmb rfl rfl (zo (zo (zo (zo (zo (zy (zF (.bool _) rfl rfl rfl) (Qmb rfl rfl (zo (zo (zo (zo (zo (zy (zF (.bool _) rfl rfl rfl) (Qab rfl rfl (TX (zQ ?_))))))))))))))))))
  refine zX () [.bool (cntD num m.abs v.abs)] Tryz.results175 ⟨(congrArg Value.bool ?_), trivial⟩ rfl SB
  rw [Bool.eq_iff_iff]
  simp only [cntD, MsgV.abs, decide_eq_true_eq, Bool.false_eq_true, false_iff]
  first | (simp_all; done) | (simp_all; omega)
 have p12 := cL h12
 refine zp rfl rfl h12 rfl (zp rfl rfl h12 rfl (zp rfl rfl h12 rfl (zy (zF (.bool _) rfl h12 rfl) (Qmb rfl rfl (zo (zo (zo (zo (zo (zy (zF (.bool _) rfl rfl rfl) (Qmb rfl rfl (zo (zo (zo (zo (zo (zy (zF (.bool _) rfl rfl rfl) ?_)))))))))))))))))
 refine Qmb rfl rfl (zo (zo (zo (zo (zo (zy (zF (.bool _) rfl rfl rfl) (Qmb rfl rfl (zo (zo (zo (zo (zo (zy (zF (.bool _) rfl rfl rfl) (Qmb rfl rfl (zo (zo (zo ?_)))))))))))))))))
 refine zo (zo (zy (zF (.bool _) rfl rfl rfl) (Qab rfl rfl (TX (zQ (zX () [.bool (cntD num m.abs v.abs)] Tryz.results175 ⟨(congrArg Value.bool ?_), trivial⟩ rfl SB))))))
 rw [Bool.eq_iff_iff]
 simp only [cntD, MsgV.abs, decide_eq_true_eq, Bool.false_eq_true, false_iff]
 first | (simp_all; done) | (simp_all; omega)
theorem set_c {w0 : World} {H : List SA} {num : Int} {mk : Nat} {m : MsgV} {a : Option Addr} {ms : List MsgV} {c : Nat} [hr : RdC w0 H (.slice a ms.length c) 39 (ms.flatMap MsgV.list)] (hf : ∀ v ∈ ms, 0 ≤ v.frm ∧ v.frm < 16) (hn : ms.length ≤ 1000) :
 CT Tryz.prog w0 (H) 146 [.agg (ViewV.mk num (mk : Int)).cells, .agg m.cells, .slice a ms.length c] (α := Unit) (fun _ => .int .u16 (setD num m.abs (ms.map MsgV.abs) : Int)) (fun _ => H) := by
 refine CT_intro Tryz.func146 rfl Tryz.ntmps146 rfl (T2 (ze rfl (Ef_boxN rfl (fun b3 => ?_))))
 refine ze rfl (Ef_boxN rfl (fun b4 => ?_))
 refine zy (za (.int .u16 _) rfl) (T4 (zy (za (.int .u16 _) rfl) (TX (zS (T2 (Qms rfl rfl (zy (zL rfl Tryz.underlying52) (Qmi rfl rfl (TX (zB ?_))))))))))
 refine T_loop [7, 9, 12, 13, 14, 15, 16, 17, 18, 19, 20, 21, 22, 23, 24, 25] [12, 7] (fun us H' => ∃ (k : Nat) (s : Nat), us = [.int .i64 (k : Int), .int .u16 (s : Int)] ∧ blk b3 (.cells (ViewV.mk num (mk : Int)).cells 24 (0, 0)) :: blk b4 (.cells m.cells 82 (0, 0)) :: H = H' ∧ k ≤ ms.length ∧ (s = setD num m.abs ((ms.map MsgV.abs).take k)) ∧ (s < 65536)) (fun us => match us with | .int _ i :: _ => ms.length - i.toNat | _ => 0) ⟨0, 0, rfl, rfl, by omega, rfl, by decide⟩ SB ?_
 rintro τ0 _ _  ⟨k, s, rfl, rfl, hk0, hs, hlt⟩ _
 refine T2 (zy (Qt_lss rfl rfl) (TX (zS (zC rfl (fun h13 => ?_) (fun h13 => ?_)))))
 ·
  have p13 := cL h13
  have hk : k < ms.length := by omega
  refine zk (zx (zS (zB (T2 (zy (Qt_indexN rfl rfl (by omega) (by omega)) (zy (Qt_val (Qt_loadRN 39 ms[k].list rfl (flat_slice _ 39 MsgV.list_len ms k hk) (MsgV.list_len _) (by decide)) (show Value.agg ms[k].list.toArray = Value.agg ms[k].cells from rfl)) (ze rfl (Ef_allocN (fun b9 => ?_)))))))))
  refine zN (zs rfl rfl (T4 (zy (zn rfl rfl) (zy (zn rfl rfl) (zy (zn rfl rfl) (ze rfl (zc (counts_c (num := num) (mk := mk) (m := m) (v := ms[k])) rfl (fun x19 => ?_))))))))
  refine TX (zC rfl (fun h19 => ?_) (fun h19 => ?_))
  ·
   have p19 := cL h19
   have hst := setD_take num m.abs (ms.map MsgV.abs) k (by simpa using hk)
   rw [if_pos (by simpa using h19)] at hst
   have hft : ((ms.map MsgV.abs)[k]'(by simpa using hk)).frm = ms[k].frm := by simp [MsgV.abs]
   rw [hft] at hst
   refine zR ?_
   obtain ⟨f, hfe⟩ := Int.eq_ofNat_of_zero_le (hf ms[k] (List.getElem_mem hk)).1
   have hf16 : f < 16 := by have := (hf ms[k] (List.getElem_mem hk)).2; omega
   have h2f : 2 ^ f < 65536 := Nat.pow_lt_pow_right (by decide) hf16
   refine zy (zm (.int .u16 _) rfl) (zy (zf 1 rfl rfl) (zy (zl rfl) (zy (Qt_shlN (k := .u16) (a := 1) (m := f) rfl (show Value.int .i64 ms[k].frm = Value.int .i64 (f : Int) from by rw [hfe]) (by show f ≤ 16; omega) (by show 1 * 2 ^ f < 2 ^ 16; omega) rfl) (zy (Qt_orN rfl rfl rfl (by show _ < 2 ^ 16; omega) (by show _ < 2 ^ 16; omega)) ?_))))
   rw [Nat.one_mul]
   refine zy (za (.int .u16 _) rfl) (zz (X_block (zx (zR (zy (zj rfl rfl) (Qmi rfl rfl (zz ?_)))))))
   apply X_loop
   case ha => exact zA
   case hI => exact by first | exact ⟨k + 1, s ||| 2 ^ f, rfl, rfl, by omega, by rw [hst, ← hs, hfe, Int.toNat_natCast], or_lt hlt hf16⟩ | exact ⟨k + 1, s, rfl, rfl, by omega, by rw [hst, ← hs], hlt⟩
   case hm => exact by show ms.length - (k + 1 : Int).toNat < ms.length - (k : Int).toNat; omega
   case hH => exact SB
  have p19 := cL h19
  have hst := setD_take num m.abs (ms.map MsgV.abs) k (by simpa using hk)
  rw [if_neg (by simpa using h19)] at hst
  refine zk (X_block (zx (zR (zy (zj rfl rfl) (Qmi rfl rfl (zz ?_))))))
  apply X_loop
  case ha => exact zA
  case hI => exact by first | exact ⟨k + 1, s ||| 2 ^ f, rfl, rfl, by omega, by rw [hst, ← hs, hfe, Int.toNat_natCast], or_lt hlt hf16⟩ | exact ⟨k + 1, s, rfl, rfl, by omega, by rw [hst, ← hs], hlt⟩
  case hm => exact by show ms.length - (k + 1 : Int).toNat < ms.length - (k : Int).toNat; omega
  case hH => exact SB
 have p13 := cL h13
 have et : (ms.map MsgV.abs).take k = ms.map MsgV.abs := List.take_of_length_le (by simp; omega)
 rw [et] at hs
 subst hs
 refine zY (zG (zW (zE (zx (T2 (zy (zm (.int .u16 _) rfl) (zy (za (.int .u16 _) rfl) (TX (zQ ?_)))))))))
 exact zX () [_] Tryz.results146 ⟨rfl, trivial⟩ (rfl) SB
theorem enough_c {w0 : World} {H : List SA} {num : Int} {mk : Nat} (hmk : mk < 65536) {m : MsgV} {a : Option Addr} {ms : List MsgV} {c : Nat} [hr : RdC w0 H (.slice a ms.length c) 39 (ms.flatMap MsgV.list)] (hf : ∀ v ∈ ms, 0 ≤ v.frm ∧ v.frm < 16) (hn : ms.length ≤ 1000) :
 CT Tryz.prog w0 (H) 102 [.agg (ViewV.mk num (mk : Int)).cells, .agg m.cells, .slice a ms.length c] (α := Unit) (fun _ => .bool (enoughD num mk m.abs (ms.map MsgV.abs))) (fun _ => H) := by
 refine CT_intro Tryz.func102 rfl Tryz.ntmps102 rfl (T2 (ze rfl (Ef_boxN rfl (fun b3 => ?_))))
 refine ze rfl (Ef_boxN rfl (fun b4 => ?_))
 refine Qab rfl rfl (TX (zS (zD (blk b3 (.cells (ViewV.mk num (mk : Int)).cells 24 (0, 0)) :: blk b4 (.cells m.cells 82 (0, 0)) :: H) [(0, true), (1, true), (2, true), (5, true), (3, false), (4, false), (6, false), (7, true), (8, true)] SB (fun hns0 => ?_))))
 refine zd hns0 rfl (zn rfl rfl) rfl (zd hns0 rfl (zn rfl rfl) rfl (zd hns0 rfl (zm (.slice _ _ _) rfl) rfl (zd hns0 rfl (zn rfl rfl) rfl (DL_e rfl rfl (zc (set_c (num := num) (mk := mk) (m := m) (ms := ms) hf hn) rfl (fun x10 => ⟨SB, ?_⟩))))))
 refine DL_e rfl rfl (zc (ones_c (setD_lt _ (frm_abs hf))) rfl (fun x11 => ⟨SB, ?_⟩))
 refine DL_e rfl rfl (zc (quorum_v hmk) rfl (fun x13 => ⟨SB, ?_⟩))
 refine zd hns0 rfl (Qt_geq rfl rfl) rfl (zd hns0 rfl (za (.bool _) rfl) rfl (DL_nil (zx (zQ ?_))))
 exact zX () [_] Tryz.results102 ⟨rfl, trivial⟩ (congrArg Value.bool (decide_eq_decide.2 (by omega))) SB
theorem opened_c {w0 : World} {H : List SA} {num : Int} {mk : Nat} (hmk : mk < 65536) {sa : Option Addr} {sc : Nat} {ls : List BS} {rt : Sl} [rk : RdC w0 H (.slice sa ls.length sc) 1 (ls.map BS.val)] [rke : RdE w0 H ls] (hkl : ∀ x ∈ ls, x.l.length ≤ 4294967000) {a : Option Addr} {ps : List BS} {c : Nat} [hp : RdC w0 H (.slice a ps.length c) 1 (ps.map BS.val)] [hpe : RdE w0 H ps] (hps : ∀ x ∈ ps, x.l.length ≤ 4294960000) (hn : ps.length ≤ 1000) :
 CT Tryz.prog w0 (H) 101 [.agg (KeysV.mk ⟨sa, sc, ls⟩ rt).cells, .agg (ViewV.mk num (mk : Int)).cells, .slice a ps.length c] (α := AC × List MsgV) (fun y => .slice y.1.a y.2.length y.1.c) (fun y => pu (y.2.map MsgV.abs = ((ps.map BS.l).map (opn (ls.map BS.l) mk))) :: row (.slice y.1.a (y.2).length y.1.c) 82 39 ((y.2).flatMap MsgV.list) :: H) := by
 refine CT_intro Tryz.func101 rfl Tryz.ntmps101 rfl (T2 (ze rfl (Ef_boxN rfl (fun b3 => ?_))))
 refine ze rfl (Ef_boxN rfl (fun b4 => ?_))
 refine Qas rfl rfl (T4 (Qas rfl rfl (TX (zS (T2 (Qms rfl rfl (zy (zL rfl Tryz.underlying28) (Qmi rfl rfl (TX (zB ?_))))))))))
 refine T_loop [7, 9, 10, 11, 14, 15, 16, 17, 18, 19, 20, 21, 22, 23, 24, 25, 26, 27, 28, 29, 30, 31, 32] [14, 7] (fun us H' => ∃ (k : Nat) (a7 : Option Addr) (c7 : Nat) (ms : List MsgV), us = [.int .i64 (k : Int), .slice a7 ms.length c7] ∧ row (.slice a7 (ms).length c7) 82 39 ((ms).flatMap MsgV.list) :: blk b3 (.cells (KeysV.mk ⟨sa, sc, ls⟩ rt).cells 40 (0, 0)) :: blk b4 (.cells (ViewV.mk num (mk : Int)).cells 24 (0, 0)) :: H = H' ∧ k ≤ ps.length ∧ (ms.map MsgV.abs = ((ps.map BS.l).take k).map (opn (ls.map BS.l) mk)) ∧ (ms.length = k)) (fun us => match us with | .int _ i :: _ => ps.length - i.toNat | _ => 0) ⟨0, none, 0, [], rfl, rfl, by omega, rfl, rfl⟩ (fun w hw => by
  have h0 : St w0 (blk b3 (.cells (KeysV.mk ⟨sa, sc, ls⟩ rt).cells 40 (0, 0)) :: blk b4 (.cells (ViewV.mk num (mk : Int)).cells 24 (0, 0)) :: H) w := SB w hw
  exact h0.addNil 82 39) ?_
 rintro τ0 _ _  ⟨k, a7, c7, ms, rfl, rfl, hk0, hms, hml⟩ _
 refine T2 (zy (Qt_lss rfl rfl) (TX (zS (zC rfl (fun h15 => ?_) (fun h15 => ?_)))))
 ·
  have p15 := cL h15
  have hk : k < ps.length := by omega
  refine zk (zx (zS (zB (T2 (zy (Qt_indexR rfl rfl (by omega) (by simp; omega)) (zy (Qt_loadR (.slice _ _ _) rfl (vals_get _ _ hk)) (Qas rfl rfl (T4 (zy (zn rfl rfl) (zy (zn rfl rfl) (Qms rfl rfl ?_)))))))))))
  have : RdB w0 H (.slice ps[k].a ps[k].l.length ps[k].c) ps[k].l := hpe.get (List.getElem_mem hk)
  refine ze rfl (zc (openOf_c hmk (num := num) (sa := sa) (sc := sc) (ls := ls) (rt := rt) (l := ps[k].l) hkl (hps _ (List.getElem_mem hk))) rfl (fun x22 => ?_))
  refine TL_pure (fun h22 => ?_)
  refine zy (zm (.tuple _) rfl) (zy (Qt_extract rfl) (zy (Qt_extract rfl) (ze rfl (Ef_allocN (fun b10 => ?_)))))
  refine zN (zs rfl rfl (Qai rfl rfl (TX (zS (T2 (Qmi rfl rfl (zy (Qt_neq rfl rfl) (TX (zC rfl (fun h26 => ?_) (fun h26 => ?_))))))))))
  ·
   have p26 := cL h26
   have hx : MsgV.zero.abs = opn (ls.map BS.l) mk ps[k].l := (opn_zero (by simpa using h26)).symm
   refine zR (zy (zw [] rfl) (zN (zs rfl rfl (TX (zR (Qms rfl rfl (zy (zn rfl rfl) (ze rfl (Ef_sliceN (m := ([MsgV.zero] : List MsgV).length) [.agg (MsgV.zero).cells] (([MsgV.zero] : List MsgV).flatMap MsgV.list) rfl rfl rfl rfl (by simp [Value.cells, MsgV.size]) rfl rfl (fun a30 c30 => ?_))))))))))
   refine ze rfl (Ef_appendS MsgV.list (sv := .slice _ _ _) (xv := .slice _ _ _) (xs := ms) (ys := [MsgV.zero]) MsgV.list_len MsgV.list_one rfl rfl (by simp; omega) rfl rfl (fun a31 c31 => ?_))
   refine Qas rfl rfl (zz (X_block (zx (zR (zy (zj rfl rfl) (Qmi rfl rfl (zz ?_)))))))
   apply X_loop
   case ha => exact zA
   case hI => exact by first | exact ⟨k + 1, a31, c31, ms ++ [x22.1], rfl, rfl, by omega, by rw [List.map_append, hms, take_get _ _ (by simpa using hk), List.map_append]; simp [hx], by simp [hml]⟩ | exact ⟨k + 1, a31, c31, ms ++ [MsgV.zero], rfl, rfl, by omega, by rw [List.map_append, hms, take_get _ _ (by simpa using hk), List.map_append]; simp [hx], by simp [hml]⟩
   case hm => exact by show ps.length - (k + 1 : Int).toNat < ps.length - (k : Int).toNat; omega
   case hH => exact SB
  have p26 := cL h26
  have hx : x22.1.abs = opn (ls.map BS.l) mk ps[k].l := h22
  refine zk (zx (zR (Qms rfl rfl (zy (zn rfl rfl) (ze rfl (Ef_sliceN (m := ([x22.1] : List MsgV).length) [.agg (x22.1).cells] (([x22.1] : List MsgV).flatMap MsgV.list) rfl rfl rfl rfl (by simp [Value.cells, MsgV.size]) rfl rfl (fun a30 c30 => ?_)))))))
  refine ze rfl (Ef_appendS MsgV.list (sv := .slice _ _ _) (xv := .slice _ _ _) (xs := ms) (ys := [x22.1]) MsgV.list_len MsgV.list_one rfl rfl (by simp; omega) rfl rfl (fun a31 c31 => ?_))
  refine Qas rfl rfl (zz (X_block (zx (zR (zy (zj rfl rfl) (Qmi rfl rfl (zz ?_)))))))
  apply X_loop
  case ha => exact zA
  case hI => exact by first | exact ⟨k + 1, a31, c31, ms ++ [x22.1], rfl, rfl, by omega, by rw [List.map_append, hms, take_get _ _ (by simpa using hk), List.map_append]; simp [hx], by simp [hml]⟩ | exact ⟨k + 1, a31, c31, ms ++ [MsgV.zero], rfl, rfl, by omega, by rw [List.map_append, hms, take_get _ _ (by simpa using hk), List.map_append]; simp [hx], by simp [hml]⟩
  case hm => exact by show ps.length - (k + 1 : Int).toNat < ps.length - (k : Int).toNat; omega
  case hH => exact SB
 have p15 := cL h15
 have et : ((ps.map BS.l).take k) = (ps.map BS.l) := List.take_of_length_le (by simp; omega)
 rw [et] at hms
 refine zY (zG (zW (zE (zx (T2 (Qms rfl rfl (Qas rfl rfl (TX (zQ ?_)))))))))
 exact zX (⟨a7, c7⟩, ms) [_] Tryz.results101 ⟨rfl, trivial⟩ rfl (fun w hw => (SB w hw : St w0 (row (.slice a7 (ms).length c7) 82 39 ((ms).flatMap MsgV.list) :: H) w).addPure hms)
theorem decided_c {w0 : World} {H : List SA} {num : Int} {mk : Nat} (hmk : mk < 65536) {sa : Option Addr} {sc : Nat} {ls : List BS} {rt : Sl} [rk : RdC w0 H (.slice sa ls.length sc) 1 (ls.map BS.val)] [rke : RdE w0 H ls] (hkl : ∀ x ∈ ls, x.l.length ≤ 4294967000) {a : Option Addr} {ps : List BS} {c : Nat} [hp : RdC w0 H (.slice a ps.length c) 1 (ps.map BS.val)] [hpe : RdE w0 H ps] (hps : ∀ x ∈ ps, x.l.length ≤ 4294960000) (hn : ps.length ≤ 1000) {slot : Int} {h : Vector UInt8 32} :
 CT Tryz.prog w0 (H) 60 [.agg (KeysV.mk ⟨sa, sc, ls⟩ rt).cells, .agg (ViewV.mk num (mk : Int)).cells, .int .i64 slot, .agg (hlist h).toArray, .slice a ps.length c] (α := Unit) (fun _ => .tuple #[.int .i64 (decidD (ls.map BS.l) num mk slot h (ps.map BS.l)).1, .int .i64 (decidD (ls.map BS.l) num mk slot h (ps.map BS.l)).2]) (fun _ => H) := by
 refine CT_intro Tryz.func60 rfl Tryz.ntmps60 rfl (T2 (ze rfl (Ef_boxN rfl (fun b5 => ?_))))
 refine ze rfl (Ef_boxN rfl (fun b6 => ?_))
 refine ze rfl (Ef_boxN rfl (fun b8 => ?_))
 refine Qai rfl rfl (Qai rfl rfl (TX (zS (T2 (zy (zn rfl rfl) (ze rfl (zc (right_v hmk) rfl (fun x15 => ?_))))))))
 refine zy (Qt_not rfl) (Qmb rfl rfl (TL_split 17 rfl (fun h17 => ?_) (fun h17 => ?_)))
 ·
  have p17 := cL h17
  refine zp rfl rfl h17 rfl (zp rfl rfl h17 rfl (zp rfl rfl h17 rfl (zy (zT (.bool _) rfl h17 rfl) (TX (T_cond_true rfl rfl (T2 (Qai rfl rfl (Qai rfl rfl (TX (zQ (zr ?_)))))))))))
  have e : decidD (ls.map BS.l) num mk slot h (ps.map BS.l) = (0, 12) := if_neg (by rintro ⟨h1, h2⟩; rw [List.length_map] at h2; first | (simp_all; done) | (simp_all; omega))
  exact zX () [_, _] Tryz.results60 ⟨rfl, rfl, trivial⟩ (by rw [e]; rfl) SB
 have p17 := cL h17
 refine zt rfl rfl h17 (Qms rfl rfl (zt rfl rfl h17 (zy (zL rfl Tryz.underlying28) (zt rfl rfl h17 (zy (Qt_gtr rfl rfl) (zy (zF (.bool _) rfl h17 rfl) (TX (zC rfl (fun h21 => ?_) (fun h21 => ?_)))))))))
 ·
  have p21 := cL h21
  refine T2 (Qai rfl rfl (Qai rfl rfl (TX (zQ (zr ?_)))))
  have e : decidD (ls.map BS.l) num mk slot h (ps.map BS.l) = (0, 12) := if_neg (by rintro ⟨h1, h2⟩; rw [List.length_map] at h2; first | (simp_all; done) | (simp_all; omega))
  exact zX () [_, _] Tryz.results60 ⟨rfl, rfl, trivial⟩ (by rw [e]; rfl) SB
 have p21 := cL h21
 refine S4 (zy (zn rfl rfl) (zy (zn rfl rfl) (Qms rfl rfl (ze rfl (zc (opened_c (num := num) hmk (sa := sa) (sc := sc) (ls := ls) (rt := rt) (ps := ps) hkl hps hn) rfl (fun x25 => ?_))))))
 refine TL_pure (fun h25 => ?_)
 refine Qas rfl rfl (TX (zS (T2 (Qmi rfl rfl (TX (zB ?_))))))
 refine T_loop [10, 11, 13, 26, 27, 28, 29, 30, 31, 32, 33, 34, 35, 36, 37, 38, 39] [26] (fun us H' => ∃ (k : Nat), us = [.int .i64 (k : Int)] ∧ row (.slice x25.1.a (x25.2).length x25.1.c) 82 39 ((x25.2).flatMap MsgV.list) :: blk b5 (.cells (KeysV.mk ⟨sa, sc, ls⟩ rt).cells 40 (0, 0)) :: blk b6 (.cells (ViewV.mk num (mk : Int)).cells 24 (0, 0)) :: blk b8 (.cells (hlist h).toArray 32 (0, 0)) :: H = H' ∧ k ≤ 41 ∧ (∀ i < k, enoughD num mk (wMsg 3 num i slot h) ((ps.map BS.l).map (opn (ls.map BS.l) mk)) = false)) (fun us => match us with | .int _ i :: _ => 41 - i.toNat | _ => 0) ⟨0, rfl, rfl, by omega, fun i h => by omega⟩ SB ?_
 rintro τ0 _ _  ⟨k, rfl, rfl, hk0, hno⟩ _
 refine T2 (zy (Qt_lss rfl rfl) (TX (zS (zC rfl (fun h27 => ?_) (fun h27 => ?_)))))
 ·
  have p27 := cL h27
  refine zk (zx (zS (zB (T2 (Qmi rfl rfl (Qai rfl rfl (T4 (zy (zn rfl rfl) (zy (zf 0 rfl rfl) (zy (zl rfl) (Qmi rfl rfl (Qmi rfl rfl (zy (zn rfl rfl) (zy (zw [(0, (.int .i64 _)), (2, (.int .i64 _)), (3, (.int .i64 _)), (4, (.int .i64 _)), (5, (.agg _))] rfl) (Qms rfl rfl ?_)))))))))))))))
  refine ze rfl (zc (enough_c (num := num) hmk (m := ⟨3, 0, num, k, slot, h, ⟨none, 0, []⟩, ⟨none, 0, []⟩⟩) (ms := x25.2) (frm_map h25) (by have := congrArg List.length h25; simp at this; omega)) rfl (fun x37 => ?_))
  rw [h25]
  refine TX (zC rfl (fun h37 => ?_) (fun h37 => ?_))
  ·
   have p37 := cL h37
   refine T2 (Qmi rfl rfl (Qai rfl rfl (Qai rfl rfl (TX (zQ (zb (zr (X_loop_ret (zb (zr ?_))))))))))
   have e : decidD (ls.map BS.l) num mk slot h (ps.map BS.l) = ((k : Int), 0) := by rw [decidD, if_pos ⟨by simp_all, by rw [List.length_map]; first | omega | (simp_all; omega)⟩, find_range (k := k) (by omega) hno h37]
   exact zX () [_, _] Tryz.results60 ⟨rfl, rfl, trivial⟩ (by rw [e]; rfl) SB
  have p37 := cL h37
  refine zk (X_block (zx (zR (zy (zj rfl rfl) (Qmi rfl rfl (zz ?_))))))
  apply X_loop
  case ha => exact zA
  case hI => exact ⟨k + 1, rfl, rfl, by omega, fun i h => by rcases Nat.lt_or_ge i k with h1 | h1; exact hno i h1; obtain rfl : i = k := (by omega); exact h37⟩
  case hm => exact by show 41 - (k + 1 : Int).toNat < 41 - (k : Int).toNat; omega
  case hH => exact SB
 have p27 := cL h27
 refine zY (zG (zW (zE (zx (T2 (Qai rfl rfl (Qai rfl rfl (TX (zQ ?_)))))))))
 have e : decidD (ls.map BS.l) num mk slot h (ps.map BS.l) = (0, 12) := by rw [decidD, if_pos ⟨by simp_all, by rw [List.length_map]; first | omega | (simp_all; omega)⟩, find_range_none (fun i h => hno i (by omega))]
 exact zX () [_, _] Tryz.results60 ⟨rfl, rfl, trivial⟩ (by rw [e]; rfl) SB
end
end Go.Proofs.YtnijomppbgdmnaaGreat
