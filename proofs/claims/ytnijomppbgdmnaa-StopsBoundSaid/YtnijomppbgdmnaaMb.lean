/- Walks: members of views, their number; the reference. -/
import Derived.Test.YtnijomppbgdmnaaVi
import Derived.Test.YtnijomppbgdmnaaCm
namespace Go.Proofs.Ytnijomppbgdmnaa
section
open Go.RowKit Go.Sx
set_option maxRecDepth 100000
set_option linter.unusedSimpArgs false
set_option linter.unusedVariables false
/-- The members of a mask, rising. -/
def memF : Nat → Nat → List Nat
  | 0, _ => []
  | k + 1, n => (if n % 2 = 1 then [0] else []) ++ (memF k (n / 2)).map (· + 1)
def memK (n : Nat) : List Nat := (List.range 16).filter fun i => n.testBit i
theorem memF_eq : ∀ k n, memF k n = (List.range k).filter fun i => n.testBit i
  | 0, n => rfl
  | k + 1, n => by
    rw [memF, memF_eq k, List.range_succ_eq_map, List.filter_cons, List.filter_map]
    have e : (fun i => n.testBit i) ∘ Nat.succ = fun i => (n / 2).testBit i := by funext i; simp [Nat.testBit_succ]
    rw [e]
    by_cases h : n % 2 = 1 <;> simp [h, Nat.testBit_zero]
theorem memF_16 (n : Nat) : memF 16 n = memK n := memF_eq 16 n
theorem mem_memK {n i : Nat} : i ∈ memK n ↔ i < 16 ∧ n.testBit i = true := by simp [memK]
theorem memK_nodup (n : Nat) : (memK n).Nodup := List.Pairwise.filter _ List.nodup_range
def tzF : Nat → Nat → Nat
  | 0, _ => 0
  | k + 1, n => if n % 2 = 1 then 0 else tzF k (n / 2) + 1
theorem and_half (a b : Nat) : a &&& b = 2 * ((a / 2) &&& (b / 2)) + (if a % 2 = 1 ∧ b % 2 = 1 then 1 else 0) := by
  have h1 := Nat.and_div_two (a := a) (b := b)
  have h2 := Nat.and_mod_two_eq_one (a := a) (b := b)
  rw [← h1]
  split
  · rename_i h; have := h2.2 h; omega
  · rename_i h; have : ¬ (a &&& b) % 2 = 1 := fun h' => h (h2.1 h'); omega
theorem tz_pow : ∀ k n, n < 2 ^ k → n ≠ 0 → n &&& (2 ^ k - n) = 2 ^ tzF k n ∧ tzF k n < k
  | 0, n, h, h0 => by omega
  | k + 1, n, h, h0 => by
    rw [Nat.pow_succ] at h
    by_cases ho : n % 2 = 1
    · rw [tzF, if_pos ho, and_half, Nat.pow_succ, if_pos ⟨ho, by omega⟩]
      refine ⟨?_, by omega⟩
      rw [show (2 ^ k * 2 - n) / 2 = 2 ^ k - 1 - n / 2 by omega]
      have : n / 2 &&& (2 ^ k - 1 - n / 2) = 0 := by
        apply Nat.eq_of_testBit_eq
        intro i
        rw [Nat.testBit_and, show 2 ^ k - 1 - n / 2 = 2 ^ k - (n / 2 + 1) by omega, Nat.testBit_two_pow_sub_succ (by omega)]
        cases h : (n / 2).testBit i <;> simp
      rw [this]
    · obtain ⟨h1, h2⟩ := tz_pow k (n / 2) (by omega) (by omega)
      rw [tzF, if_neg ho, and_half, Nat.pow_succ, if_neg (by omega), show (2 ^ k * 2 - n) / 2 = 2 ^ k - n / 2 by omega, h1, Nat.pow_succ]
      omega
theorem memF_pop : ∀ k n, n < 2 ^ k → n ≠ 0 → memF k n = tzF k n :: memF k (n &&& (n - 1)) ∧ (n &&& (n - 1)) < n
  | 0, n, h, h0 => by omega
  | k + 1, n, h, h0 => by
    rw [Nat.pow_succ] at h
    by_cases ho : n % 2 = 1
    · have e : n &&& (n - 1) = 2 * (n / 2) := by
        rw [and_half, if_neg (by omega), show (n - 1) / 2 = n / 2 by omega, Nat.and_self, Nat.add_zero]
      rw [e, memF, memF, tzF, if_pos ho, if_pos ho, if_neg (by omega), show 2 * (n / 2) / 2 = n / 2 by omega]
      exact ⟨rfl, by omega⟩
    · obtain ⟨h1, h2⟩ := memF_pop k (n / 2) (by omega) (by omega)
      have e : n &&& (n - 1) = 2 * (n / 2 &&& (n / 2 - 1)) := by
        rw [and_half, if_neg (by omega), show (n - 1) / 2 = n / 2 - 1 by omega, Nat.add_zero]
      rw [e, memF, memF, tzF, if_neg ho, if_neg ho, if_neg (by omega), show 2 * (n / 2 &&& (n / 2 - 1)) / 2 = n / 2 &&& (n / 2 - 1) by omega, h1]
      exact ⟨rfl, by omega⟩
theorem memF_split : ∀ j k n, memF (j + k) n = memF j (n % 2 ^ j) ++ (memF k (n / 2 ^ j)).map (· + j)
  | 0, k, n => by simp [memF]
  | j + 1, k, n => by
    rw [show j + 1 + k = (j + k) + 1 by omega, memF, memF, memF_split j k]
    have e1 : n % 2 ^ (j + 1) % 2 = n % 2 := Nat.mod_mod_of_dvd _ ⟨2 ^ j, by rw [Nat.pow_succ, Nat.mul_comm]⟩
    have e2 : n % 2 ^ (j + 1) / 2 = n / 2 % 2 ^ j := by rw [Nat.pow_succ, Nat.mul_comm, Nat.mod_mul_right_div_self]
    have e3 : n / 2 / 2 ^ j = n / 2 ^ (j + 1) := by rw [Nat.div_div_eq_div_mul, Nat.pow_succ, Nat.mul_comm]
    rw [e1, e2, e3, List.map_append, List.map_map, List.append_assoc]
    congr 3
theorem popB_mem : ∀ i < 256, popB i = (memF 8 i).length := by decide +kernel
theorem ones16_mem {n : Nat} (h : n < 65536) : ones16 n = (memK n).length := by
  rw [← memF_16, memF_split 8 8 n, List.length_append, List.length_map, ones16, popB_mem _ (by omega), popB_mem _ (by omega)]
  show _ = (memF 8 (n % 256)).length + (memF 8 (n / 256)).length
  rw [Nat.add_comm]
theorem quo_i64 (x k : Nat) (h : x ≤ 9223372036854775807) : IntKind.i64.wrap ((x : Int).tdiv (k : Int)) = ((x / k : Nat) : Int) := by
  have h1 : x / k ≤ x := Nat.div_le_self _ _
  rw [← Int.ofNat_tdiv]
  generalize x / k = q at *
  exact wrap_i64 (by omega) (by omega)
def quorumV (num : Int) (mk : Nat) : Nat := if sizeV num mk = 0 then 0 else (sizeV num mk + faultsV num mk) / 2 + 1
theorem hasV_nat {mk i : Nat} : hasV mk (i : Int) = true ↔ i ∈ memK mk := by
  rw [mem_memK, hasV, decide_eq_true_eq, Int.toNat_natCast, Nat.testBit_eq_decide_div_mod_eq, decide_eq_true_eq]
  omega
@[reducible] def encN (n : Nat) : List Value := [.int .i64 (n : Int)]
theorem encN_get (l : List Nat) (i : Nat) (h : i < l.length) : (l.flatMap encN)[i]? = some (.int .i64 (l[i] : Int)) := by
  have := flat_get encN 1 (fun _ => rfl) l i 0 h (by decide)
  simpa using this
theorem encN_len (l : List Nat) : (l.flatMap encN).length = l.length := by have := flat_len encN 1 (fun _ => rfl) l; simpa using this
/-- The table that the trailing zeros are read from lies where the program's variables lie. -/
def bruijn : List UInt8 := [0, 1, 28, 2, 29, 14, 24, 3, 30, 22, 20, 15, 25, 17, 4, 8, 31, 27, 13, 23, 21, 19, 16, 7, 26, 12, 18, 6, 11, 5, 10, 9]
class Glob (w0 : World) : Prop where rd : BytesAt w0 (.slice (some ⟨0, 0, none⟩) 32 32) bruijn
theorem glob_ptr (j : Nat) : ptrOf (.slice (some ⟨0, 0, none⟩) 32 32) j = some ⟨0, j, none⟩ := by simp only [ptrOf, add_block, Nat.zero_add]
theorem bruijn_get : ∀ t < 16, bruijn[2 ^ t * 125613361 % 4294967296 / 2 ^ 27]? = some (UInt8.ofNat t) := by decide +kernel
theorem bruijn_lt (t : Nat) : 2 ^ t * 125613361 % 4294967296 / 2 ^ 27 < 32 := by omega
theorem Qt_loadG {P : Program} {w0 : World} {σ : Env} {H : List SA} {d : Option Nat} {ty : TypeId} {pos : String} {aft : Array Edge} {g : Option (Nat × Bool)} [G : Glob w0] {x : Operand} {t j : Nat} (u : UInt8) (hx : ev σ x = .pointer (some ⟨0, j, none⟩)) [h1 : Ty1 P t] (hu : bruijn[j]? = some u) : Qt P w0 H σ ⟨d, .load t x, ty, pos, aft, g⟩ (.int .u8 (u.toNat : Int)) := by
  have hr : RdC w0 H (.slice (some ⟨0, 0, none⟩) 32 32) 1 (bytesV bruijn) := ⟨fun w hw => CellsAt.keep G.rd hw.below.block⟩
  exact Qt_loadR (a := some ⟨0, 0, none⟩) (n := 32) (c := 32) (j := j) (xs := bytesV bruijn) (.int .u8 (u.toNat : Int)) (hx.trans (congrArg Value.pointer (glob_ptr j).symm)) (by simp [bytesV, byteV, hu])
attribute [local irreducible] bruijn popB

theorem memK_len (n : Nat) : (memK n).length ≤ 16 := by have h := List.length_filter_le (fun i => n.testBit i) (List.range 16); simpa [memK] using h
theorem memK_zero : memK 0 = [] := by decide
set_option maxHeartbeats 1000000 in
theorem quorum_v {w0 : World} {H : List SA} {num : Int} {mk : Nat} (hmk : mk < 65536) :
    CT Try.prog w0 (H) 70 [.agg (ViewV.mk num (mk : Int)).cells] (α := Unit) (fun _ => .int .i64 (quorumV num mk : Int)) (fun _ => H) := by
  refine CT_intro Try.func70 rfl Try.ntmps70 rfl ?_
  refine T_seq ?_
  refine T_region ?_
  refine TL_e rfl (Ef_boxN rfl (fun b1 => ?_))
  refine TL_q (Qt_assign (.int .i64 _) rfl) rfl ?_
  refine TL_nil ?_
  refine X_then ?_
  refine T_seq ?_
  refine T_region ?_
  refine TL_q (Qt_loadN rfl rfl) rfl ?_
  refine TL_e rfl (Ef_call (size_v hmk) rfl (fun x5 => ?_))
  refine TL_q (Qt_assign (.int .i64 _) rfl) rfl ?_
  refine TL_nil ?_
  refine X_then ?_
  refine T_seq ?_
  refine T_seq ?_
  refine T_region ?_
  refine TL_q (Qt_move (.int .i64 _) rfl) rfl ?_
  refine TL_q (Qt_eql rfl rfl) rfl ?_
  refine TL_nil ?_
  refine X_then ?_
  refine T_cond rfl (fun h7 => ?_) (fun h7 => ?_)
  ·
    have p7 := h7
    try simp only [decide_eq_true_eq, decide_eq_false_iff_not, Bool.not_eq_true', Bool.not_eq_false', Option.isNone_iff_eq_none, ne_eq, Decidable.not_not, Int.not_lt, Int.not_le] at p7
    refine T_seq ?_
    refine T_region ?_
    refine TL_q (Qt_assign (.int .i64 _) rfl) rfl ?_
    refine TL_nil ?_
    refine X_then ?_
    refine T_ret ?_
    refine X_then_ret ?_
    have e : quorumV num mk = 0 := if_pos (by omega)
    exact X_ret () [_] Try.results70 ⟨rfl, trivial⟩ (by rw [e]; rfl) (Subs.st inferInstance)
  ·
    have p7 := h7
    try simp only [decide_eq_true_eq, decide_eq_false_iff_not, Bool.not_eq_true', Bool.not_eq_false', Option.isNone_iff_eq_none, ne_eq, Decidable.not_not, Int.not_lt, Int.not_le] at p7
    refine T_skip ?_
    refine X_then ?_
    refine T_seq ?_
    refine T_region ?_
    have hsz := sizeV_le (num := num) hmk
    have hfa : faultsV num mk ≤ 16 := by unfold faultsV; omega
    refine TL_q (Qt_move (.int .i64 _) rfl) rfl ?_
    refine TL_q (Qt_loadN rfl rfl) rfl ?_
    refine TL_e rfl (Ef_call (faults_v hmk) rfl (fun x10 => ?_))
    first
      | refine TL_q (Qt_add rfl rfl (by omega) (by omega)) rfl ?_
      | refine TL_q (Qt_addw rfl rfl) rfl ?_
    refine TL_q (Qt_quo rfl rfl (by omega)) rfl ?_
    rw [show IntKind.i64.wrap (((sizeV num mk : Int) + (faultsV num mk : Int)).tdiv 2) = (((sizeV num mk + faultsV num mk) / 2 : Nat) : Int) from by rw [← Int.natCast_add]; exact quo_i64 _ 2 (by omega)]
    refine TL_q (Qt_add rfl rfl (by omega) (by omega)) rfl ?_
    refine TL_q (Qt_assign (.int .i64 _) rfl) rfl ?_
    refine TL_nil ?_
    refine X_then ?_
    refine T_ret ?_
    have e : quorumV num mk = (sizeV num mk + faultsV num mk) / 2 + 1 := if_neg (by omega)
    exact X_ret () [_] Try.results70 ⟨rfl, trivial⟩ (by rw [e]; push_cast; rfl) (Subs.st inferInstance)
end
section
open Go.RowKit Go.Sx
set_option maxRecDepth 100000
set_option linter.unusedSimpArgs false
set_option linter.unusedVariables false
theorem sizeV_range {num : Int} {mk : Nat} : sizeV num mk = 0 ∨ (4 ≤ sizeV num mk ∧ sizeV num mk ≤ 7) := by
  unfold sizeV
  split
  · rename_i h; simp only [rightV, decide_eq_true_eq] at h; omega
  · exact .inl rfl
end
end Go.Proofs.Ytnijomppbgdmnaa
