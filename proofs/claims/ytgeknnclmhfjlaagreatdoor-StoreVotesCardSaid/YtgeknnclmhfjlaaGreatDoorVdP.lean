/- Votes as data: their bytes, whether they are formed. -/
import Derived.Test.YtgeknnclmhfjlaaGreatDoorSgP
import Derived.Test.YtgeknnclmhfjlaaGreatDoorCmP
import Derived.Test.YtgeknnclmhfjlaaGreatDoorTnP
namespace Go.Proofs.YtgeknnclmhfjlaaGreatDoor
section
open Go.RowKit Go.Sx
set_option maxRecDepth 100000
set_option linter.unusedSimpArgs false
set_option linter.unusedVariables false

structure VoteD where
 kind : Int
 view : Int
 reg : Int
 slot : Int
 hash : Vector UInt8 32
 batch : List UInt8
 cert : List (List UInt8)
def VoteV.abs (v : VoteV) : VoteD := ⟨v.kind, v.view, v.reg, v.slot, v.hash, v.batch.l, v.cert.ls.map BS.l⟩
def withinB (n b : Int) : Bool := decide (0 ≤ n) && decide (n ≤ b)
def formedB (v : VoteD) : Bool :=
 decide (1 ≤ v.kind) && decide (v.kind ≤ 3) && withinB v.view 60 && withinB v.reg 40 && withinB v.slot 60 &&
 (decide (v.kind ≠ 1) || (decide (v.slot = 0) && decide (v.hash = zeroV 32) && decide (v.batch = []))) && (decide (v.kind = 3) || decide (v.cert = []))
theorem formed_spec (v : VoteD) : formedB v = true ↔ 1 ≤ v.kind ∧ v.kind ≤ 3 ∧ (0 ≤ v.view ∧ v.view ≤ 60) ∧ (0 ≤ v.reg ∧ v.reg ≤ 40) ∧ (0 ≤ v.slot ∧ v.slot ≤ 60) ∧ (v.kind = 1 → v.slot = 0 ∧ v.hash = zeroV 32 ∧ v.batch = []) ∧ (v.kind ≠ 3 → v.cert = []) := by
 simp only [formedB, withinB, Bool.and_eq_true, Bool.or_eq_true, decide_eq_true_eq]
 constructor
 · rintro ⟨⟨⟨⟨⟨⟨h1, h2⟩, h3⟩, h4⟩, h5⟩, h6⟩, h7⟩
   exact ⟨h1, h2, h3, h4, h5, fun h => by rcases h6 with h6 | h6; exact absurd h h6; exact ⟨h6.1.1, h6.1.2, h6.2⟩, fun h => h7.resolve_left h⟩
 · rintro ⟨h1, h2, h3, h4, h5, h6, h7⟩
   refine ⟨⟨⟨⟨⟨⟨h1, h2⟩, h3⟩, h4⟩, h5⟩, ?_⟩, ?_⟩
   · by_cases h : v.kind = 1
     · exact .inr ⟨⟨(h6 h).1, (h6 h).2.1⟩, (h6 h).2.2⟩
     · exact .inl h
   · by_cases h : v.kind = 3
     · exact .inl h
     · exact .inr (h7 h)
theorem within_iff (n b : Int) : withinB n b = true ↔ 0 ≤ n ∧ n ≤ b := by simp [withinB]
theorem within_not (n b : Int) : withinB n b = false ↔ ¬ (0 ≤ n ∧ n ≤ b) := by rw [← within_iff]; simp
def num3 (v : VoteD) (k : Nat) : Int := match k with | 0 => v.view | 1 => v.reg | _ => v.slot
def pre3 (v : VoteD) : Nat → List UInt8
 | 0 => fixed (u64 v.kind).toNat 1
 | k + 1 => pre3 v k ++ fixed (u64 (num3 v k)).toNat 2
theorem pre3_length (v : VoteD) : ∀ k, (pre3 v k).length = 1 + 2 * k
 | 0 => by simp [pre3, fixed_length]
 | k + 1 => by simp [pre3, fixed_length, pre3_length v k]; omega
def head (v : VoteD) : List UInt8 := pre3 v 3 ++ v.hash.toList ++ textB v.batch ++ packed v.cert.length
def told (v : VoteD) : List UInt8 := head v ++ texts v.cert
theorem head_length (v : VoteD) (hb : v.batch.length ≤ 100000) (hc : v.cert.length ≤ 100000) : (head v).length ≤ 100100 := by
 have h1 := textB_length v.batch (by omega)
 have h2 := packed_length_le v.cert.length (by omega)
 simp [head, pre3_length]; omega
def putV (v : VoteD) : List UInt8 × Int :=
 if 16 < v.cert.length then ([], 4) else if 65536 < v.batch.length + sumLen v.cert then ([], 4)
 else if 65536 < (told v).length then ([], 4) else if formedB v then (told v, 0) else ([], 15)
theorem putFixed_2 (l : List UInt8) (x : Int) : putFixed l x 2 = l ++ fixed x.toNat 2 := rfl
theorem putFixed_1 (l : List UInt8) (x : Int) : putFixed l x 1 = l ++ fixed x.toNat 1 := rfl
end
section
open Go.RowKit Go.Sx
set_option maxRecDepth 100000
set_option linter.unusedSimpArgs false
set_option linter.unusedVariables false
set_option maxHeartbeats 1000000 in
theorem within_c {w0 : World} {H : List SA} {n b : Int} :
 CT Tryz.prog w0 (H) 119 [.int .i64 n, .int .i64 b] (α := Unit) (fun _ => .bool (withinB n b)) (fun _ => H) := by
 refine CT_intro Tryz.func119 rfl Tryz.ntmps119 rfl ?_
 refine T2 (Qab rfl rfl (T4 (Qmi rfl rfl (zq (Qt_geq rfl rfl) rfl (Qmb rfl rfl ?_)))))
 refine TL_split 7 rfl (fun h7 => ?_) (fun h7 => ?_)
 ·
  have p7 := h7
  try simp only [dp] at p7
  refine zt rfl rfl h7 (Qmi rfl rfl (zt rfl rfl h7 (Qmi rfl rfl (zt rfl rfl h7 (zq (Qt_leq rfl rfl) rfl ?_)))))
  refine zq (zT (.bool _) rfl h7 rfl) rfl (Qab rfl rfl (TX (zQ ?_)))
  exact zX () [.bool (withinB n b)] Tryz.results119 ⟨by refine congrArg Value.bool ?_; first | (simp_all [withinB]; done) | (simp_all [withinB]; omega), trivial⟩ rfl SB
 have p7 := h7
 try simp only [dp] at p7
 refine zp rfl rfl h7 rfl (zp rfl rfl h7 rfl (zp rfl rfl h7 rfl (zq (zF (.bool _) rfl h7 rfl) rfl (Qab rfl rfl (TX (zQ ?_))))))
 exact zX () [.bool (withinB n b)] Tryz.results119 ⟨by refine congrArg Value.bool ?_; first | (simp_all [withinB]; done) | (simp_all [withinB]; omega), trivial⟩ rfl SB
set_option maxHeartbeats 1000000 in
theorem formed_c {w0 : World} {H : List SA} {v : VoteV} :
 CT Tryz.prog w0 (H) 71 [.agg v.cells] (α := Unit) (fun _ => .bool (formedB v.abs)) (fun _ => H) := by
 refine CT_intro Tryz.func71 rfl Tryz.ntmps71 rfl ?_
 refine T2 ?_
 refine ze rfl (Ef_boxN rfl (fun b1 => ?_))
 refine Qab rfl rfl (TX (zS (T2 ?_)))
 refine zq (zf 0 rfl rfl) rfl (zq (zl rfl) rfl (zq (Qt_lss rfl rfl) rfl (Qmb rfl rfl ?_)))
 refine TL_split 6 rfl (fun h6 => ?_) (fun h6 => ?_)
 ·
  have p6 := h6
  try simp only [dp] at p6
  refine zp rfl rfl h6 rfl (zp rfl rfl h6 rfl (zp rfl rfl h6 rfl (zq (zT (.bool _) rfl h6 rfl) rfl (Qmb rfl rfl (zp rfl rfl rfl rfl ?_)))))
  refine zp rfl rfl rfl rfl (zp rfl rfl rfl rfl (zp rfl rfl rfl rfl (zq (zT (.bool _) rfl rfl rfl) rfl (Qmb rfl rfl (zp rfl rfl rfl rfl ?_)))))
  refine zp rfl rfl rfl rfl (zp rfl rfl rfl rfl (zp rfl rfl rfl rfl (zq (zT (.bool _) rfl rfl rfl) rfl (Qmb rfl rfl (zp rfl rfl rfl rfl ?_)))))
  refine zp rfl rfl rfl rfl (zp rfl rfl rfl rfl (zp rfl rfl rfl rfl (zq (zT (.bool _) rfl rfl rfl) rfl (TX (T_cond_true rfl rfl ?_)))))
  refine T2 (Qab rfl rfl (TX (zQ (zr ?_))))
  refine zX () [.bool (formedB v.abs)] Tryz.results71 ⟨?_, trivial⟩ rfl SB
  refine congrArg Value.bool ?_
  first
   | (refine Eq.symm (Bool.eq_false_iff.2 fun hf => ?_); have hf1 := (formed_spec v.abs).1 hf; simp only [within_iff, within_not, VoteV.abs] at *; first | omega | simp_all)
   | (refine Eq.symm ((formed_spec v.abs).2 ?_); simp only [within_iff, within_not, VoteV.abs, Bool.not_eq_false, Bool.not_eq_true] at *; refine ⟨by omega, by omega, by omega, by omega, by omega, fun h => ?_, fun h => ?_⟩ <;> first | omega | simp_all)
   | (rw [Bool.eq_iff_iff, formed_spec]; simp only [within_iff, within_not, VoteV.abs, decide_eq_true_eq, Bool.not_eq_false, Bool.not_eq_true] at *; constructor; (intro hd; refine ⟨by omega, by omega, by omega, by omega, by omega, fun h => ?_, fun h => ?_⟩ <;> first | omega | simp_all); (rintro ⟨-, -, -, -, -, -, h7⟩; have := h7 (by omega); simp_all))
 have p6 := h6
 try simp only [dp] at p6
 refine zt rfl rfl h6 (zq (zf 0 rfl rfl) rfl (zt rfl rfl h6 (zq (zl rfl) rfl (zt rfl rfl h6 (zq (Qt_gtr rfl rfl) rfl ?_)))))
 refine zq (zF (.bool _) rfl h6 rfl) rfl (Qmb rfl rfl ?_)
 refine TL_split 11 rfl (fun h11 => ?_) (fun h11 => ?_)
 ·
  have p11 := h11
  try simp only [dp] at p11
  refine zp rfl rfl h11 rfl (zp rfl rfl h11 rfl (zp rfl rfl h11 rfl (zp rfl rfl h11 rfl (zq (zT (.bool _) rfl h11 rfl) rfl (Qmb rfl rfl ?_)))))
  refine zp rfl rfl rfl rfl (zp rfl rfl rfl rfl (zp rfl rfl rfl rfl (zp rfl rfl rfl rfl (zq (zT (.bool _) rfl rfl rfl) rfl (Qmb rfl rfl ?_)))))
  refine zp rfl rfl rfl rfl (zp rfl rfl rfl rfl (zp rfl rfl rfl rfl (zp rfl rfl rfl rfl (zq (zT (.bool _) rfl rfl rfl) rfl (TX ?_)))))
  refine T_cond_true rfl rfl (T2 (Qab rfl rfl (TX (zQ (zr ?_)))))
  refine zX () [.bool (formedB v.abs)] Tryz.results71 ⟨?_, trivial⟩ rfl SB
  refine congrArg Value.bool ?_
  first
   | (refine Eq.symm (Bool.eq_false_iff.2 fun hf => ?_); have hf1 := (formed_spec v.abs).1 hf; simp only [within_iff, within_not, VoteV.abs] at *; first | omega | simp_all)
   | (refine Eq.symm ((formed_spec v.abs).2 ?_); simp only [within_iff, within_not, VoteV.abs, Bool.not_eq_false, Bool.not_eq_true] at *; refine ⟨by omega, by omega, by omega, by omega, by omega, fun h => ?_, fun h => ?_⟩ <;> first | omega | simp_all)
   | (rw [Bool.eq_iff_iff, formed_spec]; simp only [within_iff, within_not, VoteV.abs, decide_eq_true_eq, Bool.not_eq_false, Bool.not_eq_true] at *; constructor; (intro hd; refine ⟨by omega, by omega, by omega, by omega, by omega, fun h => ?_, fun h => ?_⟩ <;> first | omega | simp_all); (rintro ⟨-, -, -, -, -, -, h7⟩; have := h7 (by omega); simp_all))
 have p11 := h11
 try simp only [dp] at p11
 refine zt rfl rfl h11 (zq (zf 1 rfl rfl) rfl (zt rfl rfl h11 (zq (zl rfl) rfl (zt rfl rfl h11 ?_))))
 refine ze rfl (zc (within_c) rfl (fun x14 => ?_))
 refine zt rfl rfl h11 (zq (Qt_not rfl) rfl (zq (zF (.bool _) rfl h11 rfl) rfl (Qmb rfl rfl ?_)))
 refine TL_split 17 rfl (fun h17 => ?_) (fun h17 => ?_)
 ·
  have p17 := h17
  try simp only [dp] at p17
  refine zp rfl rfl h17 rfl (zp rfl rfl h17 rfl (zp rfl rfl h17 rfl (zp rfl rfl h17 rfl (zq (zT (.bool _) rfl h17 rfl) rfl (Qmb rfl rfl ?_)))))
  refine zp rfl rfl rfl rfl (zp rfl rfl rfl rfl (zp rfl rfl rfl rfl (zp rfl rfl rfl rfl (zq (zT (.bool _) rfl rfl rfl) rfl (TX ?_)))))
  refine T_cond_true rfl rfl (T2 (Qab rfl rfl (TX (zQ (zr ?_)))))
  refine zX () [.bool (formedB v.abs)] Tryz.results71 ⟨?_, trivial⟩ rfl SB
  refine congrArg Value.bool ?_
  first
   | (refine Eq.symm (Bool.eq_false_iff.2 fun hf => ?_); have hf1 := (formed_spec v.abs).1 hf; simp only [within_iff, within_not, VoteV.abs] at *; first | omega | simp_all)
   | (refine Eq.symm ((formed_spec v.abs).2 ?_); simp only [within_iff, within_not, VoteV.abs, Bool.not_eq_false, Bool.not_eq_true] at *; refine ⟨by omega, by omega, by omega, by omega, by omega, fun h => ?_, fun h => ?_⟩ <;> first | omega | simp_all)
   | (rw [Bool.eq_iff_iff, formed_spec]; simp only [within_iff, within_not, VoteV.abs, decide_eq_true_eq, Bool.not_eq_false, Bool.not_eq_true] at *; constructor; (intro hd; refine ⟨by omega, by omega, by omega, by omega, by omega, fun h => ?_, fun h => ?_⟩ <;> first | omega | simp_all); (rintro ⟨-, -, -, -, -, -, h7⟩; have := h7 (by omega); simp_all))
 have p17 := h17
 try simp only [dp] at p17
 refine zt rfl rfl h17 (zq (zf 2 rfl rfl) rfl (zt rfl rfl h17 (zq (zl rfl) rfl (zt rfl rfl h17 ?_))))
 refine ze rfl (zc (within_c) rfl (fun x20 => ?_))
 refine zt rfl rfl h17 (zq (Qt_not rfl) rfl (zq (zF (.bool _) rfl h17 rfl) rfl (Qmb rfl rfl ?_)))
 refine TL_split 23 rfl (fun h23 => ?_) (fun h23 => ?_)
 ·
  have p23 := h23
  try simp only [dp] at p23
  refine zp rfl rfl h23 rfl (zp rfl rfl h23 rfl (zp rfl rfl h23 rfl (zp rfl rfl h23 rfl (zq (zT (.bool _) rfl h23 rfl) rfl (TX ?_)))))
  refine T_cond_true rfl rfl (T2 (Qab rfl rfl (TX (zQ (zr ?_)))))
  refine zX () [.bool (formedB v.abs)] Tryz.results71 ⟨?_, trivial⟩ rfl SB
  refine congrArg Value.bool ?_
  first
   | (refine Eq.symm (Bool.eq_false_iff.2 fun hf => ?_); have hf1 := (formed_spec v.abs).1 hf; simp only [within_iff, within_not, VoteV.abs] at *; first | omega | simp_all)
   | (refine Eq.symm ((formed_spec v.abs).2 ?_); simp only [within_iff, within_not, VoteV.abs, Bool.not_eq_false, Bool.not_eq_true] at *; refine ⟨by omega, by omega, by omega, by omega, by omega, fun h => ?_, fun h => ?_⟩ <;> first | omega | simp_all)
   | (rw [Bool.eq_iff_iff, formed_spec]; simp only [within_iff, within_not, VoteV.abs, decide_eq_true_eq, Bool.not_eq_false, Bool.not_eq_true] at *; constructor; (intro hd; refine ⟨by omega, by omega, by omega, by omega, by omega, fun h => ?_, fun h => ?_⟩ <;> first | omega | simp_all); (rintro ⟨-, -, -, -, -, -, h7⟩; have := h7 (by omega); simp_all))
 have p23 := h23
 try simp only [dp] at p23
 refine zt rfl rfl h23 (zq (zf 3 rfl rfl) rfl (zt rfl rfl h23 (zq (zl rfl) rfl (zt rfl rfl h23 ?_))))
 refine ze rfl (zc (within_c) rfl (fun x26 => ?_))
 refine zt rfl rfl h23 (zq (Qt_not rfl) rfl (zq (zF (.bool _) rfl h23 rfl) rfl (TX (zC rfl (fun h28 => ?_) (fun h28 => ?_)))))
 ·
  have p28 := h28
  try simp only [dp] at p28
  refine T2 (Qab rfl rfl (TX (zQ (zr ?_))))
  refine zX () [.bool (formedB v.abs)] Tryz.results71 ⟨?_, trivial⟩ rfl SB
  refine congrArg Value.bool ?_
  first
   | (refine Eq.symm (Bool.eq_false_iff.2 fun hf => ?_); have hf1 := (formed_spec v.abs).1 hf; simp only [within_iff, within_not, VoteV.abs] at *; first | omega | simp_all)
   | (refine Eq.symm ((formed_spec v.abs).2 ?_); simp only [within_iff, within_not, VoteV.abs, Bool.not_eq_false, Bool.not_eq_true] at *; refine ⟨by omega, by omega, by omega, by omega, by omega, fun h => ?_, fun h => ?_⟩ <;> first | omega | simp_all)
   | (rw [Bool.eq_iff_iff, formed_spec]; simp only [within_iff, within_not, VoteV.abs, decide_eq_true_eq, Bool.not_eq_false, Bool.not_eq_true] at *; constructor; (intro hd; refine ⟨by omega, by omega, by omega, by omega, by omega, fun h => ?_, fun h => ?_⟩ <;> first | omega | simp_all); (rintro ⟨-, -, -, -, -, -, h7⟩; have := h7 (by omega); simp_all))
 have p28 := h28
 try simp only [dp] at p28
 refine zk (zx (zS (T2 ?_)))
 refine zq (zf 0 rfl rfl) rfl (zq (zl rfl) rfl (zq (Qt_eql rfl rfl) rfl (Qmb rfl rfl ?_)))
 refine TL_split 32 rfl (fun h32 => ?_) (fun h32 => ?_)
 ·
  have p32 := h32
  try simp only [dp] at p32
  refine zt rfl rfl h32 (zq (zf 3 rfl rfl) rfl (zt rfl rfl h32 (zq (zl rfl) rfl (zt rfl rfl h32 (zq (Qt_neq rfl rfl) rfl ?_)))))
  refine zt rfl rfl h32 (Qmb rfl rfl ?_)
  refine TL_split 36 rfl (fun h36 => ?_) (fun h36 => ?_)
  ·
   have p36 := h36
   try simp only [dp] at p36
   refine zp rfl rfl h36 rfl (zp rfl rfl h36 rfl (zp rfl rfl h36 rfl (zp rfl rfl h36 rfl (zt rfl rfl h32 (zq (zT (.bool _) rfl h36 rfl) rfl ?_)))))
   refine zt rfl rfl h32 (Qmb rfl rfl (zp rfl rfl rfl rfl (zp rfl rfl rfl rfl (zp rfl rfl rfl rfl (zp rfl rfl rfl rfl ?_)))))
   refine zt rfl rfl h32 (zq (zT (.bool _) rfl rfl rfl) rfl (zq (zT (.bool _) rfl h32 rfl) rfl (TX (T_cond_true rfl rfl (T2 ?_)))))
   refine Qab rfl rfl (TX (zQ (zr ?_)))
   refine zX () [.bool (formedB v.abs)] Tryz.results71 ⟨?_, trivial⟩ rfl SB
   refine congrArg Value.bool ?_
   first
    | (refine Eq.symm (Bool.eq_false_iff.2 fun hf => ?_); have hf1 := (formed_spec v.abs).1 hf; simp only [within_iff, within_not, VoteV.abs] at *; first | omega | simp_all)
    | (refine Eq.symm ((formed_spec v.abs).2 ?_); simp only [within_iff, within_not, VoteV.abs, Bool.not_eq_false, Bool.not_eq_true] at *; refine ⟨by omega, by omega, by omega, by omega, by omega, fun h => ?_, fun h => ?_⟩ <;> first | omega | simp_all)
    | (rw [Bool.eq_iff_iff, formed_spec]; simp only [within_iff, within_not, VoteV.abs, decide_eq_true_eq, Bool.not_eq_false, Bool.not_eq_true] at *; constructor; (intro hd; refine ⟨by omega, by omega, by omega, by omega, by omega, fun h => ?_, fun h => ?_⟩ <;> first | omega | simp_all); (rintro ⟨-, -, -, -, -, -, h7⟩; have := h7 (by omega); simp_all))
  have p36 := h36
  try simp only [dp] at p36
  refine zt rfl rfl h36 (zq (zf 4 rfl rfl) rfl (zt rfl rfl h36 (zq (zn rfl rfl) rfl (zt rfl rfl h36 (zq (Qt_build_arr (hlist (zeroV 32)).toArray Tryz.underlying40 rfl rfl rfl) rfl ?_)))))
  refine zt rfl rfl h36 (zq (Qt_agg_neq rfl rfl (by kernel_rfl)) rfl (zt rfl rfl h32 (zq (zF (.bool _) rfl h36 rfl) rfl (zt rfl rfl h32 (Qmb rfl rfl ?_)))))
  refine TL_split 42 rfl (fun h42 => ?_) (fun h42 => ?_)
  ·
   have p42 := h42
   try simp only [dp] at p42
   refine zp rfl rfl h42 rfl (zp rfl rfl h42 rfl (zp rfl rfl h42 rfl (zp rfl rfl h42 rfl (zt rfl rfl h32 (zq (zT (.bool _) rfl h42 rfl) rfl ?_)))))
   refine zq (zT (.bool _) rfl h32 rfl) rfl (TX (T_cond_true rfl rfl (T2 (Qab rfl rfl (TX (zQ (zr ?_)))))))
   refine zX () [.bool (formedB v.abs)] Tryz.results71 ⟨?_, trivial⟩ rfl SB
   refine congrArg Value.bool ?_
   first
    | (refine Eq.symm (Bool.eq_false_iff.2 fun hf => ?_); have hf1 := (formed_spec v.abs).1 hf; simp only [within_iff, within_not, VoteV.abs] at *; first | omega | simp_all)
    | (refine Eq.symm ((formed_spec v.abs).2 ?_); simp only [within_iff, within_not, VoteV.abs, Bool.not_eq_false, Bool.not_eq_true] at *; refine ⟨by omega, by omega, by omega, by omega, by omega, fun h => ?_, fun h => ?_⟩ <;> first | omega | simp_all)
    | (rw [Bool.eq_iff_iff, formed_spec]; simp only [within_iff, within_not, VoteV.abs, decide_eq_true_eq, Bool.not_eq_false, Bool.not_eq_true] at *; constructor; (intro hd; refine ⟨by omega, by omega, by omega, by omega, by omega, fun h => ?_, fun h => ?_⟩ <;> first | omega | simp_all); (rintro ⟨-, -, -, -, -, -, h7⟩; have := h7 (by omega); simp_all))
  have p42 := h42
  try simp only [dp] at p42
  refine zt rfl rfl h42 (zq (zf 36 rfl rfl) rfl (zt rfl rfl h42 (zq (zl rfl) rfl (zt rfl rfl h42 (zq (zL rfl Tryz.underlying41) rfl ?_)))))
  refine zt rfl rfl h42 (zq (Qt_gtr rfl rfl) rfl (zt rfl rfl h32 (zq (zF (.bool _) rfl h42 rfl) rfl (zq (zT (.bool _) rfl h32 rfl) rfl (TX ?_)))))
  refine zC rfl (fun h48 => ?_) (fun h48 => ?_)
  ·
   have p48 := h48
   try simp only [dp] at p48
   refine T2 (Qab rfl rfl (TX (zQ (zr ?_))))
   refine zX () [.bool (formedB v.abs)] Tryz.results71 ⟨?_, trivial⟩ rfl SB
   refine congrArg Value.bool ?_
   first
    | (refine Eq.symm (Bool.eq_false_iff.2 fun hf => ?_); have hf1 := (formed_spec v.abs).1 hf; simp only [within_iff, within_not, VoteV.abs] at *; first | omega | simp_all)
    | (refine Eq.symm ((formed_spec v.abs).2 ?_); simp only [within_iff, within_not, VoteV.abs, Bool.not_eq_false, Bool.not_eq_true] at *; refine ⟨by omega, by omega, by omega, by omega, by omega, fun h => ?_, fun h => ?_⟩ <;> first | omega | simp_all)
    | (rw [Bool.eq_iff_iff, formed_spec]; simp only [within_iff, within_not, VoteV.abs, decide_eq_true_eq, Bool.not_eq_false, Bool.not_eq_true] at *; constructor; (intro hd; refine ⟨by omega, by omega, by omega, by omega, by omega, fun h => ?_, fun h => ?_⟩ <;> first | omega | simp_all); (rintro ⟨-, -, -, -, -, -, h7⟩; have := h7 (by omega); simp_all))
  have p48 := h48
  try simp only [dp] at p48
  refine S4 (zq (zf 0 rfl rfl) rfl (zq (zl rfl) rfl (zq (Qt_eql rfl rfl) rfl (Qmb rfl rfl ?_))))
  refine TL_split 52 rfl (fun h52 => ?_) (fun h52 => ?_)
  ·
   have p52 := h52
   try simp only [dp] at p52
   refine zp rfl rfl h52 rfl (zp rfl rfl h52 rfl (zp rfl rfl h52 rfl (zp rfl rfl h52 rfl (zq (zT (.bool _) rfl h52 rfl) rfl (Qab rfl rfl ?_)))))
   refine TX (zQ ?_)
   refine zX () [.bool (formedB v.abs)] Tryz.results71 ⟨?_, trivial⟩ rfl SB
   refine congrArg Value.bool ?_
   first
    | (refine Eq.symm (Bool.eq_false_iff.2 fun hf => ?_); have hf1 := (formed_spec v.abs).1 hf; simp only [within_iff, within_not, VoteV.abs] at *; first | omega | simp_all)
    | (refine Eq.symm ((formed_spec v.abs).2 ?_); simp only [within_iff, within_not, VoteV.abs, Bool.not_eq_false, Bool.not_eq_true] at *; refine ⟨by omega, by omega, by omega, by omega, by omega, fun h => ?_, fun h => ?_⟩ <;> first | omega | simp_all)
    | (rw [Bool.eq_iff_iff, formed_spec]; simp only [within_iff, within_not, VoteV.abs, decide_eq_true_eq, Bool.not_eq_false, Bool.not_eq_true] at *; constructor; (intro hd; refine ⟨by omega, by omega, by omega, by omega, by omega, fun h => ?_, fun h => ?_⟩ <;> first | omega | simp_all); (rintro ⟨-, -, -, -, -, -, h7⟩; have := h7 (by omega); simp_all))
  have p52 := h52
  try simp only [dp] at p52
  refine zt rfl rfl h52 (zq (zf 37 rfl rfl) rfl (zt rfl rfl h52 (zq (zl rfl) rfl (zt rfl rfl h52 (zq (zL rfl Tryz.underlying42) rfl ?_)))))
  refine zt rfl rfl h52 (zq (Qt_eql rfl rfl) rfl (zq (zF (.bool _) rfl h52 rfl) rfl (Qab rfl rfl (TX (zQ ?_)))))
  refine zX () [.bool (formedB v.abs)] Tryz.results71 ⟨?_, trivial⟩ rfl SB
  refine congrArg Value.bool ?_
  first
   | (refine Eq.symm (Bool.eq_false_iff.2 fun hf => ?_); have hf1 := (formed_spec v.abs).1 hf; simp only [within_iff, within_not, VoteV.abs] at *; first | omega | simp_all)
   | (refine Eq.symm ((formed_spec v.abs).2 ?_); simp only [within_iff, within_not, VoteV.abs, Bool.not_eq_false, Bool.not_eq_true] at *; refine ⟨by omega, by omega, by omega, by omega, by omega, fun h => ?_, fun h => ?_⟩ <;> first | omega | simp_all)
   | (rw [Bool.eq_iff_iff, formed_spec]; simp only [within_iff, within_not, VoteV.abs, decide_eq_true_eq, Bool.not_eq_false, Bool.not_eq_true] at *; constructor; (intro hd; refine ⟨by omega, by omega, by omega, by omega, by omega, fun h => ?_, fun h => ?_⟩ <;> first | omega | simp_all); (rintro ⟨-, -, -, -, -, -, h7⟩; have := h7 (by omega); simp_all))
 have p32 := h32
 try simp only [dp] at p32
 refine zp rfl rfl h32 rfl (zp rfl rfl h32 rfl (zp rfl rfl h32 rfl (zp rfl rfl h32 rfl (TL_passU rfl rfl rfl (TL_passU rfl rfl rfl ?_)))))
 refine TL_passU rfl rfl rfl (TL_passU rfl rfl rfl (zp rfl rfl h32 rfl (zp rfl rfl h32 rfl (TL_passU rfl rfl rfl (TL_passU rfl rfl rfl ?_)))))
 refine TL_passU rfl rfl rfl (TL_passU rfl rfl rfl (zp rfl rfl h32 rfl (zq (zF (.bool _) rfl h32 rfl) rfl (TX (T_cond_false rfl rfl ?_)))))
 refine S4 (zq (zf 0 rfl rfl) rfl (zq (zl rfl) rfl (zq (Qt_eql rfl rfl) rfl (Qmb rfl rfl ?_))))
 refine TL_split 52 rfl (fun h52 => ?_) (fun h52 => ?_)
 ·
  have p52 := h52
  try simp only [dp] at p52
  refine zp rfl rfl h52 rfl (zp rfl rfl h52 rfl (zp rfl rfl h52 rfl (zp rfl rfl h52 rfl (zq (zT (.bool _) rfl h52 rfl) rfl (Qab rfl rfl ?_)))))
  refine TX (zQ ?_)
  refine zX () [.bool (formedB v.abs)] Tryz.results71 ⟨?_, trivial⟩ rfl SB
  refine congrArg Value.bool ?_
  first
   | (refine Eq.symm (Bool.eq_false_iff.2 fun hf => ?_); have hf1 := (formed_spec v.abs).1 hf; simp only [within_iff, within_not, VoteV.abs] at *; first | omega | simp_all)
   | (refine Eq.symm ((formed_spec v.abs).2 ?_); simp only [within_iff, within_not, VoteV.abs, Bool.not_eq_false, Bool.not_eq_true] at *; refine ⟨by omega, by omega, by omega, by omega, by omega, fun h => ?_, fun h => ?_⟩ <;> first | omega | simp_all)
   | (rw [Bool.eq_iff_iff, formed_spec]; simp only [within_iff, within_not, VoteV.abs, decide_eq_true_eq, Bool.not_eq_false, Bool.not_eq_true] at *; constructor; (intro hd; refine ⟨by omega, by omega, by omega, by omega, by omega, fun h => ?_, fun h => ?_⟩ <;> first | omega | simp_all); (rintro ⟨-, -, -, -, -, -, h7⟩; have := h7 (by omega); simp_all))
 have p52 := h52
 try simp only [dp] at p52
 refine zt rfl rfl h52 (zq (zf 37 rfl rfl) rfl (zt rfl rfl h52 (zq (zl rfl) rfl (zt rfl rfl h52 (zq (zL rfl Tryz.underlying42) rfl ?_)))))
 refine zt rfl rfl h52 (zq (Qt_eql rfl rfl) rfl (zq (zF (.bool _) rfl h52 rfl) rfl (Qab rfl rfl (TX (zQ ?_)))))
 refine zX () [.bool (formedB v.abs)] Tryz.results71 ⟨?_, trivial⟩ rfl SB
 refine congrArg Value.bool ?_
 first
  | (refine Eq.symm (Bool.eq_false_iff.2 fun hf => ?_); have hf1 := (formed_spec v.abs).1 hf; simp only [within_iff, within_not, VoteV.abs] at *; first | omega | simp_all)
  | (refine Eq.symm ((formed_spec v.abs).2 ?_); simp only [within_iff, within_not, VoteV.abs, Bool.not_eq_false, Bool.not_eq_true] at *; refine ⟨by omega, by omega, by omega, by omega, by omega, fun h => ?_, fun h => ?_⟩ <;> first | omega | simp_all)
  | (rw [Bool.eq_iff_iff, formed_spec]; simp only [within_iff, within_not, VoteV.abs, decide_eq_true_eq, Bool.not_eq_false, Bool.not_eq_true] at *; constructor; (intro hd; refine ⟨by omega, by omega, by omega, by omega, by omega, fun h => ?_, fun h => ?_⟩ <;> first | omega | simp_all); (rintro ⟨-, -, -, -, -, -, h7⟩; have := h7 (by omega); simp_all))
set_option maxHeartbeats 1000000 in
theorem vtold_c {w0 : World} {H : List SA} {v : VoteV} [rb : RdB w0 H (.slice v.batch.a v.batch.l.length v.batch.c) v.batch.l] [rc : RdC w0 H (.slice v.cert.a v.cert.ls.length v.cert.c) 1 (v.cert.ls.map BS.val)] [re : RdE w0 H v.cert.ls] (hb : v.batch.l.length ≤ 65536) (hc : v.cert.ls.length ≤ 16) (he : ∀ x ∈ v.cert.ls, x.l.length ≤ 65536) :
 CT Tryz.prog w0 (H) 70 [.agg v.cells] (α := AC) (fun y => .slice y.a (told v.abs).length y.c) (fun y => row (.slice y.a (told v.abs).length y.c) 5 1 (bytesV (told v.abs)) :: H) := by
 refine CT_intro Tryz.func70 rfl Tryz.ntmps70 rfl ?_
 refine T2 ?_
 refine ze rfl (Ef_boxN rfl (fun b1 => ?_))
 refine Qas rfl rfl (T4 (zq (zf 0 rfl rfl) rfl (zq (zl rfl) rfl (zq (Qt_conv rfl rfl Tryz.underlying23) rfl ?_))))
 refine ze rfl (zc (putFixed_c (a := none) (l := []) (c := 0) (by simp) (u64_range _).1) rfl (fun x11 => ?_))
 rw [putFixed_1, List.nil_append, show fixed (u64 v.kind).toNat 1 = pre3 v.abs 0 from rfl]
 refine Qas rfl rfl (TX (zS (T2 ?_)))
 refine zq (zf 1 rfl rfl) rfl (zq (zl rfl) rfl (zq (zf 2 rfl rfl) rfl (zq (zl rfl) rfl (zq (zf 3 rfl rfl) rfl (zq (zl rfl) rfl ?_)))))
 refine zq (Qt_build_arr #[(.int .i64 _), (.int .i64 _), (.int .i64 _)] Tryz.underlying212 rfl rfl rfl) rfl (Qmi rfl rfl (TX (zB ?_)))
 refine T_loop [3, 5, 19, 20, 21, 22, 23, 24, 25, 26] [19, 3] (fun vs H' => ∃ (k : Nat) (a : Option Addr) (c : Nat), vs = [.int .i64 (k : Int), .slice a (pre3 v.abs k).length c] ∧ H' = row (.slice a (pre3 v.abs k).length c) 5 1 (bytesV (pre3 v.abs k)) :: blk b1 (.cells v.cells 44 (0, 0)) :: H ∧ k ≤ 3) (fun vs => match vs with | .int _ i :: _ => 3 - i.toNat | _ => 0) ⟨0, x11.a, x11.c, rfl, rfl, by omega⟩ SB ?_
 rintro τ0 _ _  ⟨k, a1, c1, rfl, rfl, hk0⟩ _
 refine T2 (zq (Qt_lss rfl rfl) rfl (TX (zS ?_)))
 refine zC rfl (fun h20 => ?_) (fun h20 => ?_)
 ·
  have p20 := h20
  try simp only [dp] at p20
  have hk : k < 3 := by omega
  refine zk (zx (zS (zB (T2 ?_))))
  refine zq (Qt_index (.int .i64 (num3 v.abs k)) rfl rfl Tryz.underlying212 (by omega) (by omega) (by rcases (by omega : k = 0 ∨ k = 1 ∨ k = 2) with rfl | rfl | rfl <;> rfl)) rfl (Qai rfl rfl (TX (zR ?_)))
  refine Qms rfl rfl (Qmi rfl rfl (zq (Qt_conv rfl rfl Tryz.underlying23) rfl ?_))
  refine ze rfl (zc (putFixed_c (by rw [pre3_length]; omega) (u64_range _).1) rfl (fun x25 => ?_))
  rw [putFixed_2, show pre3 v.abs k ++ fixed (u64 (num3 v.abs k)).toNat 2 = pre3 v.abs (k + 1) from rfl]
  refine Qas rfl rfl (zz (X_block (zx (zR ?_))))
  refine zq (Qt_add rfl rfl (by omega) (by omega)) rfl (Qmi rfl rfl (zz (X_loop _ (by repeat (first | with_reducible exact agree_refl | refine agree_upd rfl ?_ | refine agree_mix rfl ?_ | refine agree_setAll rfl ?_)) (⟨k + 1, x25.a, x25.c, rfl, rfl, by omega⟩) (by show 3 - (k + 1 : Int).toNat < 3 - (k : Int).toNat; omega) (SB))))
 have p20 := h20
 try simp only [dp] at p20
 obtain rfl : k = 3 := by omega
 refine zY (zG (zW (zE (zx (zS ?_)))))
 refine T_draw (blk b1 (.cells v.cells 44 (0, 0)) :: H) [(0, true), (1, true), (2, true), (4, true), (5, true), (3, false), (6, false), (7, true)] (by kernel_rfl) (by kernel_rfl) rfl (by kernel_rfl) SB (fun hns0 => ?_)
 refine zd hns0 rfl (zm (.slice _ _ _) rfl) rfl (zd hns0 rfl (zf 4 rfl rfl) rfl (zd hns0 rfl (Qt_slice_arr rfl Tryz.underlying40 rfl rfl) rfl (zd hns0 rfl (zf 36 rfl rfl) rfl (zd hns0 rfl (zl rfl) rfl ?_))))
 refine DL_e rfl rfl (Ef_appendB (sv := .slice _ _ _) (xv := .slice _ _ _) (hn := RdB.hash v.hash inferInstance inferInstance (by decide)) rfl rfl (by simp [pre3_length]) rfl (fun a30 c30 => ⟨SB, ?_⟩))
 refine DL_e rfl rfl (zc (putText_c (by simp [pre3_length]) (by omega)) rfl (fun x33 => ⟨SB, ?_⟩))
 rw [show pre3 v.abs 3 ++ v.hash.toList ++ packed v.batch.l.length ++ v.batch.l = pre3 v.abs 3 ++ v.hash.toList ++ textB v.abs.batch from by simp [textB, VoteV.abs]]
 refine zd hns0 rfl (za (.slice _ _ _) rfl) rfl (DL_nil (zx (T2 ?_)))
 refine Qms rfl rfl (zq (zf 37 rfl rfl) rfl (zq (zl rfl) rfl (zq (zL rfl Tryz.underlying42) rfl (zq (Qt_conv_u64 rfl rfl Tryz.underlying23 (by omega) (by omega)) rfl ?_))))
 have hh : (pre3 v.abs 3 ++ v.hash.toList ++ textB v.abs.batch).length ≤ 100000 := by
  have := textB_length v.abs.batch (by show v.batch.l.length < _; omega)
  have : v.abs.batch.length = v.batch.l.length := rfl
  simp [pre3_length]; omega
 refine ze rfl (zc (putPacked_c (by have := hh; omega) (by omega) (by omega)) rfl (fun x39 => ?_))
 rw [show pre3 v.abs 3 ++ v.hash.toList ++ textB v.abs.batch ++ packed (v.cert.ls.length : Int).toNat = head v.abs from by simp [head, VoteV.abs]]
 refine Qas rfl rfl (TX (zS (T2 ?_)))
 refine zq (zf 37 rfl rfl) rfl (zq (zl rfl) rfl (zq (zL rfl Tryz.underlying42) rfl (Qmi rfl rfl (TX (zB ?_)))))
 refine T_loop [3, 7, 43, 44, 45, 46, 47, 48, 49, 50] [43, 3] (fun vs H' => ∃ (k : Nat) (a : Option Addr) (c : Nat), vs = [.int .i64 (k : Int), .slice a (head v.abs ++ texts ((v.cert.ls.map BS.l).take k)).length c] ∧ H' = row (.slice a (head v.abs ++ texts ((v.cert.ls.map BS.l).take k)).length c) 5 1 (bytesV (head v.abs ++ texts ((v.cert.ls.map BS.l).take k))) :: blk b1 (.cells v.cells 44 (0, 0)) :: H ∧ k ≤ v.cert.ls.length) (fun vs => match vs with | .int _ i :: _ => v.cert.ls.length - i.toNat | _ => 0) ⟨0, x39.a, x39.c, by rw [List.take_zero, show texts [] = [] from rfl, List.append_nil]; rfl, by rw [List.take_zero, show texts [] = [] from rfl, List.append_nil], by omega⟩ SB ?_
 rintro τ1 _ _  ⟨k, a2, c2, rfl, rfl, hk0⟩ _
 refine T2 (zq (Qt_lss rfl rfl) rfl (TX (zS ?_)))
 refine zC rfl (fun h44 => ?_) (fun h44 => ?_)
 ·
  have p44 := h44
  try simp only [dp] at p44
  have hk : k < v.cert.ls.length := by omega
  have hk' : (k : Int) < v.cert.ls.length := by omega
  refine zk (zx (zS (zB (T2 ?_))))
  refine zq (Qt_indexR rfl rfl (by omega) (by simpa using hk')) rfl (zq (Qt_loadR (.slice _ _ _) rfl (vals_get _ _ hk)) rfl (Qas rfl rfl (TX (zR ?_))))
  refine Qms rfl rfl (Qms rfl rfl ?_)
  have hmem : v.cert.ls[k] ∈ v.cert.ls := List.getElem_mem hk
  have : RdB w0 H (.slice v.cert.ls[k].a v.cert.ls[k].l.length v.cert.ls[k].c) v.cert.ls[k].l := re.get hmem
  have hh2 : (head v.abs ++ texts ((v.cert.ls.map BS.l).take k)).length ≤ 2000000 := by
   have h1 := head_length v.abs (by show v.batch.l.length ≤ _; omega) (by show (v.cert.ls.map BS.l).length ≤ _; simp; omega)
   have h2 := texts_length 65536 ((v.cert.ls.map BS.l).take k) (fun x hx => by obtain ⟨y, hy, rfl⟩ := List.mem_map.1 (List.mem_of_mem_take hx); exact he y hy) (by decide)
   have h3 : ((v.cert.ls.map BS.l).take k).length ≤ 16 := by simp; omega
   have h4 := Nat.mul_le_mul_right (10 + 65536) h3
   rw [List.length_append]; omega
  refine ze rfl (zc (putText_c (by have := hh2; omega) (by have := he _ hmem; omega)) rfl (fun x49 => ?_))
  rw [show head v.abs ++ texts ((v.cert.ls.map BS.l).take k) ++ packed v.cert.ls[k].l.length ++ v.cert.ls[k].l = head v.abs ++ texts ((v.cert.ls.map BS.l).take (k + 1)) from by rw [take_get _ _ (by simpa using hk), texts_snoc]; simp [textB]]
  refine Qas rfl rfl (zz (X_block (zx (zR ?_))))
  refine zq (Qt_add rfl rfl (by omega) (by omega)) rfl (Qmi rfl rfl (zz (X_loop _ (by repeat (first | with_reducible exact agree_refl | refine agree_upd rfl ?_ | refine agree_mix rfl ?_ | refine agree_setAll rfl ?_)) (⟨k + 1, x49.a, x49.c, rfl, rfl, by omega⟩) (by show v.cert.ls.length - (k + 1 : Int).toNat < v.cert.ls.length - (k : Int).toNat; omega) (SB))))
 have p44 := h44
 try simp only [dp] at p44
 have et : (v.cert.ls.map BS.l).take k = v.abs.cert := List.take_of_length_le (by simp; omega)
 simp only [et]
 refine zY (zG (zW (zE (zx (T2 ?_)))))
 refine Qms rfl rfl (Qas rfl rfl (TX (zQ ?_)))
 rw [show head v.abs ++ texts v.abs.cert = told v.abs from rfl]
 exact zX ⟨a2, c2⟩ [_] Tryz.results70 ⟨rfl, trivial⟩ rfl SB
end
section
open Go.RowKit Go.Sx
set_option maxRecDepth 100000
set_option linter.unusedSimpArgs false
set_option linter.unusedVariables false
def longOne (v : VoteD) : Bool := decide (500 < v.batch.length) || decide (20 < v.cert.length) || v.cert.any fun c => decide (300 < c.length)
def longB (l : List VoteD) : Bool := decide (40 < l.length) || l.any longOne
theorem vote_get (vs : List VoteV) (i j : Nat) (hi : i < vs.length) (hj : j < 38) {u : Value} (h : CellAt vs[i].cells j u) : (vs.flatMap VoteV.list)[i * 38 + j]? = some u := by
 rw [flat_get VoteV.list 38 VoteV.list_len vs i j hi hj]
 exact cell_list (l := vs[i].list) h

theorem VoteD.ext_iff' (x y : VoteD) : x = y ↔ x.kind = y.kind ∧ x.view = y.view ∧ x.reg = y.reg ∧ x.slot = y.slot ∧ x.hash = y.hash ∧ x.batch = y.batch ∧ x.cert = y.cert := by cases x; cases y; simp
instance : DecidableEq VoteD := fun x y => decidable_of_iff _ (VoteD.ext_iff' x y).symm

set_option maxHeartbeats 1000000 in
theorem same13_c {w0 : World} {H : List SA} {v u : VoteV} [rbv : RdB w0 H (.slice v.batch.a v.batch.l.length v.batch.c) v.batch.l] [rcv : RdC w0 H (.slice v.cert.a v.cert.ls.length v.cert.c) 1 (v.cert.ls.map BS.val)] [rev : RdE w0 H v.cert.ls] [rbu : RdB w0 H (.slice u.batch.a u.batch.l.length u.batch.c) u.batch.l] [rcu : RdC w0 H (.slice u.cert.a u.cert.ls.length u.cert.c) 1 (u.cert.ls.map BS.val)] [reu : RdE w0 H u.cert.ls] (hb : v.batch.l.length ≤ 4294967296) (hc : v.cert.ls.length ≤ 4294967296) (he1 : ∀ x ∈ v.cert.ls, x.l.length ≤ 4294967296) :
 CT Tryz.prog w0 (H) 18 [.agg v.cells, .agg u.cells] (α := Unit) (fun _ => .bool (decide (v.abs = u.abs))) (fun _ => H) := by
 refine CT_intro Tryz.func18 rfl Tryz.ntmps18 rfl ?_
 refine T2 ?_
 refine ze rfl (Ef_boxN rfl (fun b2 => ?_))
 refine ze rfl (Ef_boxN rfl (fun b3 => ?_))
 refine Qab rfl rfl (T4 (zq (zf 0 rfl rfl) rfl (zq (zl rfl) rfl (zq (zf 0 rfl rfl) rfl (zq (zl rfl) rfl ?_)))))
 refine zq (Qt_eql rfl rfl) rfl (Qmb rfl rfl ?_)
 refine TL_split 10 rfl (fun h10 => ?_) (fun h10 => ?_)
 ·
  have p10 := h10
  try simp only [dp] at p10
  refine zt rfl rfl h10 (zq (zf 1 rfl rfl) rfl (zt rfl rfl h10 (zq (zl rfl) rfl (zt rfl rfl h10 (zq (zf 1 rfl rfl) rfl ?_)))))
  refine zt rfl rfl h10 (zq (zl rfl) rfl (zt rfl rfl h10 (zq (Qt_eql rfl rfl) rfl (zq (zT (.bool _) rfl h10 rfl) rfl (Qmb rfl rfl ?_)))))
  refine TL_split 17 rfl (fun h17 => ?_) (fun h17 => ?_)
  ·
   have p17 := h17
   try simp only [dp] at p17
   refine zt rfl rfl h17 (zq (zf 2 rfl rfl) rfl (zt rfl rfl h17 (zq (zl rfl) rfl (zt rfl rfl h17 (zq (zf 2 rfl rfl) rfl ?_)))))
   refine zt rfl rfl h17 (zq (zl rfl) rfl (zt rfl rfl h17 (zq (Qt_eql rfl rfl) rfl (zq (zT (.bool _) rfl h17 rfl) rfl (Qmb rfl rfl ?_)))))
   refine TL_split 24 rfl (fun h24 => ?_) (fun h24 => ?_)
   ·
    have p24 := h24
    try simp only [dp] at p24
    refine zt rfl rfl h24 (zq (zf 3 rfl rfl) rfl (zt rfl rfl h24 (zq (zl rfl) rfl (zt rfl rfl h24 (zq (zf 3 rfl rfl) rfl ?_)))))
    refine zt rfl rfl h24 (zq (zl rfl) rfl (zt rfl rfl h24 (zq (Qt_eql rfl rfl) rfl (zq (zT (.bool _) rfl h24 rfl) rfl (Qmb rfl rfl ?_)))))
    refine TL_split 31 rfl (fun h31 => ?_) (fun h31 => ?_)
    ·
     have p31 := h31
     try simp only [dp] at p31
     refine zt rfl rfl h31 (zq (zf 4 rfl rfl) rfl (zt rfl rfl h31 (zq (zn rfl rfl) rfl (zt rfl rfl h31 (zq (zf 4 rfl rfl) rfl ?_)))))
     refine zt rfl rfl h31 (zq (zn rfl rfl) rfl (zt rfl rfl h31 (zq (Qt_agg_eql rfl rfl (by kernel_rfl)) rfl (zq (zT (.bool _) rfl h31 rfl) rfl (Qmb rfl rfl ?_)))))
     refine TL_split 38 rfl (fun h38 => ?_) (fun h38 => ?_)
     ·
      have p38 := h38
      try simp only [dp] at p38
      refine zt rfl rfl h38 (zq (zf 36 rfl rfl) rfl (zt rfl rfl h38 (zq (zl rfl) rfl (zt rfl rfl h38 (zq (zf 36 rfl rfl) rfl ?_)))))
      refine zt rfl rfl h38 (zq (zl rfl) rfl (zt rfl rfl h38 ?_))
      refine ze rfl (zc (same_c hb) rfl (fun x43 => ?_))
      refine zq (zT (.bool _) rfl h38 rfl) rfl (Qmb rfl rfl ?_)
      refine TL_split 45 rfl (fun h45 => ?_) (fun h45 => ?_)
      ·
       have p45 := h45
       try simp only [dp] at p45
       refine zt rfl rfl h45 (zq (zf 37 rfl rfl) rfl (zt rfl rfl h45 (zq (zl rfl) rfl (zt rfl rfl h45 (zq (zf 37 rfl rfl) rfl ?_)))))
       refine zt rfl rfl h45 (zq (zl rfl) rfl (zt rfl rfl h45 ?_))
       refine ze rfl (zc (sameParts_c hc he1) rfl (fun x50 => ?_))
       refine zq (zT (.bool _) rfl h45 rfl) rfl (Qab rfl rfl (TX (zQ ?_)))
       refine zX () [.bool (decide (v.abs = u.abs))] Tryz.results18 ⟨?_, trivial⟩ rfl SB
       refine congrArg Value.bool ?_
       rw [Bool.eq_iff_iff]
       simp only [decide_eq_true_eq, VoteD.ext_iff']
       simp only [VoteV.abs]
       first | (simp_all; done) | (simp_all; omega)
      have p45 := h45
      try simp only [dp] at p45
      refine zp rfl rfl h45 rfl (zp rfl rfl h45 rfl (zp rfl rfl h45 rfl (zp rfl rfl h45 rfl (zp rfl rfl h45 rfl (zq (zF (.bool _) rfl h45 rfl) rfl ?_)))))
      refine Qab rfl rfl (TX (zQ ?_))
      refine zX () [.bool (decide (v.abs = u.abs))] Tryz.results18 ⟨?_, trivial⟩ rfl SB
      refine congrArg Value.bool ?_
      rw [Bool.eq_iff_iff]
      simp only [decide_eq_true_eq, VoteD.ext_iff']
      simp only [VoteV.abs]
      first | (simp_all; done) | (simp_all; omega)
     have p38 := h38
     try simp only [dp] at p38
     refine zp rfl rfl h38 rfl (zp rfl rfl h38 rfl (zp rfl rfl h38 rfl (zp rfl rfl h38 rfl (zp rfl rfl h38 rfl (zq (zF (.bool _) rfl h38 rfl) rfl ?_)))))
     refine Qmb rfl rfl (zp rfl rfl rfl rfl (zp rfl rfl rfl rfl (zp rfl rfl rfl rfl (zp rfl rfl rfl rfl (zp rfl rfl rfl rfl ?_)))))
     refine zq (zF (.bool _) rfl rfl rfl) rfl (Qab rfl rfl (TX (zQ ?_)))
     refine zX () [.bool (decide (v.abs = u.abs))] Tryz.results18 ⟨?_, trivial⟩ rfl SB
     refine congrArg Value.bool ?_
     rw [Bool.eq_iff_iff]
     simp only [decide_eq_true_eq, VoteD.ext_iff']
     simp only [VoteV.abs]
     first | (simp_all; done) | (simp_all; omega)
    have p31 := h31
    try simp only [dp] at p31
    refine zp rfl rfl h31 rfl (zp rfl rfl h31 rfl (zp rfl rfl h31 rfl (zp rfl rfl h31 rfl (zp rfl rfl h31 rfl (zq (zF (.bool _) rfl h31 rfl) rfl ?_)))))
    refine Qmb rfl rfl (zp rfl rfl rfl rfl (zp rfl rfl rfl rfl (zp rfl rfl rfl rfl (zp rfl rfl rfl rfl (zp rfl rfl rfl rfl ?_)))))
    refine zq (zF (.bool _) rfl rfl rfl) rfl (Qmb rfl rfl (zp rfl rfl rfl rfl (zp rfl rfl rfl rfl (zp rfl rfl rfl rfl (zp rfl rfl rfl rfl ?_)))))
    refine zp rfl rfl rfl rfl (zq (zF (.bool _) rfl rfl rfl) rfl (Qab rfl rfl (TX (zQ ?_))))
    refine zX () [.bool (decide (v.abs = u.abs))] Tryz.results18 ⟨?_, trivial⟩ rfl SB
    refine congrArg Value.bool ?_
    rw [Bool.eq_iff_iff]
    simp only [decide_eq_true_eq, VoteD.ext_iff']
    simp only [VoteV.abs]
    first | (simp_all; done) | (simp_all; omega)
   have p24 := h24
   try simp only [dp] at p24
   refine zp rfl rfl h24 rfl (zp rfl rfl h24 rfl (zp rfl rfl h24 rfl (zp rfl rfl h24 rfl (zp rfl rfl h24 rfl (zq (zF (.bool _) rfl h24 rfl) rfl ?_)))))
   refine Qmb rfl rfl (zp rfl rfl rfl rfl (zp rfl rfl rfl rfl (zp rfl rfl rfl rfl (zp rfl rfl rfl rfl (zp rfl rfl rfl rfl ?_)))))
   refine zq (zF (.bool _) rfl rfl rfl) rfl (Qmb rfl rfl (zp rfl rfl rfl rfl (zp rfl rfl rfl rfl (zp rfl rfl rfl rfl (zp rfl rfl rfl rfl ?_)))))
   refine zp rfl rfl rfl rfl (zq (zF (.bool _) rfl rfl rfl) rfl (Qmb rfl rfl (zp rfl rfl rfl rfl (zp rfl rfl rfl rfl (zp rfl rfl rfl rfl ?_)))))
   refine zp rfl rfl rfl rfl (zp rfl rfl rfl rfl (zq (zF (.bool _) rfl rfl rfl) rfl (Qab rfl rfl (TX (zQ ?_)))))
   refine zX () [.bool (decide (v.abs = u.abs))] Tryz.results18 ⟨?_, trivial⟩ rfl SB
   refine congrArg Value.bool ?_
   rw [Bool.eq_iff_iff]
   simp only [decide_eq_true_eq, VoteD.ext_iff']
   simp only [VoteV.abs]
   first | (simp_all; done) | (simp_all; omega)
  have p17 := h17
  try simp only [dp] at p17
  refine zp rfl rfl h17 rfl (zp rfl rfl h17 rfl (zp rfl rfl h17 rfl (zp rfl rfl h17 rfl (zp rfl rfl h17 rfl (zq (zF (.bool _) rfl h17 rfl) rfl ?_)))))
  refine Qmb rfl rfl (zp rfl rfl rfl rfl (zp rfl rfl rfl rfl (zp rfl rfl rfl rfl (zp rfl rfl rfl rfl (zp rfl rfl rfl rfl ?_)))))
  refine zq (zF (.bool _) rfl rfl rfl) rfl (Qmb rfl rfl (zp rfl rfl rfl rfl (zp rfl rfl rfl rfl (zp rfl rfl rfl rfl (zp rfl rfl rfl rfl ?_)))))
  refine zp rfl rfl rfl rfl (zq (zF (.bool _) rfl rfl rfl) rfl (Qmb rfl rfl (zp rfl rfl rfl rfl (zp rfl rfl rfl rfl (zp rfl rfl rfl rfl ?_)))))
  refine zp rfl rfl rfl rfl (zp rfl rfl rfl rfl (zq (zF (.bool _) rfl rfl rfl) rfl (Qmb rfl rfl (zp rfl rfl rfl rfl (zp rfl rfl rfl rfl ?_)))))
  refine zp rfl rfl rfl rfl (zp rfl rfl rfl rfl (zp rfl rfl rfl rfl (zq (zF (.bool _) rfl rfl rfl) rfl (Qab rfl rfl (TX (zQ ?_))))))
  refine zX () [.bool (decide (v.abs = u.abs))] Tryz.results18 ⟨?_, trivial⟩ rfl SB
  refine congrArg Value.bool ?_
  rw [Bool.eq_iff_iff]
  simp only [decide_eq_true_eq, VoteD.ext_iff']
  simp only [VoteV.abs]
  first | (simp_all; done) | (simp_all; omega)
 have p10 := h10
 try simp only [dp] at p10
 refine zp rfl rfl h10 rfl (zp rfl rfl h10 rfl (zp rfl rfl h10 rfl (zp rfl rfl h10 rfl (zp rfl rfl h10 rfl (zq (zF (.bool _) rfl h10 rfl) rfl ?_)))))
 refine Qmb rfl rfl (zp rfl rfl rfl rfl (zp rfl rfl rfl rfl (zp rfl rfl rfl rfl (zp rfl rfl rfl rfl (zp rfl rfl rfl rfl ?_)))))
 refine zq (zF (.bool _) rfl rfl rfl) rfl (Qmb rfl rfl (zp rfl rfl rfl rfl (zp rfl rfl rfl rfl (zp rfl rfl rfl rfl (zp rfl rfl rfl rfl ?_)))))
 refine zp rfl rfl rfl rfl (zq (zF (.bool _) rfl rfl rfl) rfl (Qmb rfl rfl (zp rfl rfl rfl rfl (zp rfl rfl rfl rfl (zp rfl rfl rfl rfl ?_)))))
 refine zp rfl rfl rfl rfl (zp rfl rfl rfl rfl (zq (zF (.bool _) rfl rfl rfl) rfl (Qmb rfl rfl (zp rfl rfl rfl rfl (zp rfl rfl rfl rfl ?_)))))
 refine zp rfl rfl rfl rfl (zp rfl rfl rfl rfl (zp rfl rfl rfl rfl (zq (zF (.bool _) rfl rfl rfl) rfl (Qmb rfl rfl (zp rfl rfl rfl rfl ?_)))))
 refine zp rfl rfl rfl rfl (zp rfl rfl rfl rfl (zp rfl rfl rfl rfl (zp rfl rfl rfl rfl (zq (zF (.bool _) rfl rfl rfl) rfl (Qab rfl rfl ?_)))))
 refine TX (zQ ?_)
 refine zX () [.bool (decide (v.abs = u.abs))] Tryz.results18 ⟨?_, trivial⟩ rfl SB
 refine congrArg Value.bool ?_
 rw [Bool.eq_iff_iff]
 simp only [decide_eq_true_eq, VoteD.ext_iff']
 simp only [VoteV.abs]
 first | (simp_all; done) | (simp_all; omega)
end
section
open Go.RowKit Go.Sx
set_option maxRecDepth 100000
set_option linter.unusedSimpArgs false
set_option linter.unusedVariables false
/-- What a walk over votes wants of their sizes. -/
def SmallV (v : VoteD) : Prop := v.batch.length ≤ 100000 ∧ v.cert.length ≤ 100000 ∧ ∀ c ∈ v.cert, c.length ≤ 100000
theorem SmallV.batch {v : VoteV} (h : SmallV v.abs) : v.batch.l.length ≤ 100000 := h.1
theorem SmallV.cert {v : VoteV} (h : SmallV v.abs) : v.cert.ls.length ≤ 100000 := by have := h.2.1; simpa [VoteV.abs] using this
theorem SmallV.each {v : VoteV} (h : SmallV v.abs) : ∀ x ∈ v.cert.ls, x.l.length ≤ 100000 := fun x hx => h.2.2 x.l (List.mem_map.2 ⟨x, hx, rfl⟩)
theorem certs_len (v : VoteV) : v.abs.cert.length = v.cert.ls.length := by simp [VoteV.abs]

set_option maxHeartbeats 1000000 in
theorem put_c {w0 : World} {H : List SA} {v : VoteV} [rbv : RdB w0 H (.slice v.batch.a v.batch.l.length v.batch.c) v.batch.l] [rcv : RdC w0 H (.slice v.cert.a v.cert.ls.length v.cert.c) 1 (v.cert.ls.map BS.val)] [rev : RdE w0 H v.cert.ls] (hs : SmallV v.abs) :
 CT Tryz.prog w0 (H) 30 [.agg v.cells] (α := AC) (fun y => .tuple #[.slice y.a (putV v.abs).1.length y.c, .int .i64 (putV v.abs).2]) (fun y => row (.slice y.a (putV v.abs).1.length y.c) 5 1 (bytesV (putV v.abs).1) :: H) := by
 refine CT_intro Tryz.func30 rfl Tryz.ntmps30 rfl ?_
 refine T2 ?_
 refine ze rfl (Ef_boxN rfl (fun b1 => ?_))
 refine Qas rfl rfl (Qai rfl rfl (TX (zS (T2 ?_))))
 refine zq (zf 37 rfl rfl) rfl (zq (zl rfl) rfl (zq (zL rfl Tryz.underlying42) rfl (zq (Qt_gtr rfl rfl) rfl (TX (zC rfl (fun h11 => ?_) (fun h11 => ?_))))))
 ·
  have p11 := h11
  try simp only [dp] at p11
  refine T2 (Qas rfl rfl (Qai rfl rfl (TX (zQ (zr ?_)))))
  have e : putV v.abs = ([], 4) := by unfold putV; rw [if_pos (by rw [certs_len]; omega)]
  simp only [e]
  exact zX ⟨none, 0⟩ [_, _] Tryz.results30 ⟨rfl, rfl, trivial⟩ rfl (fun w hw => (SB w hw : St w0 H w).addNilB 5)
 have p11 := h11
 try simp only [dp] at p11
 have p11 : ¬ 16 < v.abs.cert.length := by rw [certs_len]; omega
 refine S4 (zq (zf 36 rfl rfl) rfl (zq (zl rfl) rfl (zq (zL rfl Tryz.underlying41) rfl (Qai rfl rfl (TX (zS (T2 ?_)))))))
 refine zq (zf 37 rfl rfl) rfl (zq (zl rfl) rfl (zq (zL rfl Tryz.underlying42) rfl (Qmi rfl rfl (TX (zB ?_)))))
 have hb1 := hs.batch
 have hc1 := hs.cert
 have he1 := hs.each
 refine T_loop [4, 6, 18, 19, 20, 21, 22, 23, 24, 25, 26] [18, 4] (fun vs H' => ∃ k : Nat, vs = [.int .i64 (k : Int), .int .i64 ((v.batch.l.length + sumLen (v.abs.cert.take k) : Nat) : Int)] ∧ blk b1 (.cells v.cells 44 (0, 0)) :: H = H' ∧ k ≤ v.cert.ls.length) (fun vs => match vs with | .int _ i :: _ => v.cert.ls.length - i.toNat | _ => 0) ⟨0, rfl, rfl, by omega⟩ SB ?_
 rintro τ0 _ _  ⟨k, rfl, rfl, hk0⟩ _
 refine T2 (zq (Qt_lss rfl rfl) rfl (TX (zS ?_)))
 refine zC rfl (fun h19 => ?_) (fun h19 => ?_)
 ·
  have p19 := h19
  try simp only [dp] at p19
  have hk : k < v.cert.ls.length := by omega
  refine zk (zx (zS (zB (T2 ?_))))
  refine zq (Qt_indexR rfl rfl (by omega) (by simp; omega)) rfl (zq (Qt_loadR (.slice _ _ _) rfl (vals_get _ _ hk)) rfl (Qas rfl rfl (TX (zR ?_))))
  refine Qmi rfl rfl (Qms rfl rfl (zq (zL rfl Tryz.underlying41) rfl ?_))
  have hsl : sumLen (v.abs.cert.take k) ≤ 1600000 := by
   have h1 := sumLen_le 100000 (v.abs.cert.take k) (fun x hx => hs.2.2 x (List.mem_of_mem_take hx))
   have h2 : (v.abs.cert.take k).length ≤ 16 := by rw [List.length_take, certs_len]; omega
   have h3 := Nat.mul_le_mul_right 100000 h2
   omega
  have hel := he1 _ (List.getElem_mem hk)
  refine zq (Qt_add rfl rfl (by omega) (by omega)) rfl (Qai rfl rfl (zz (X_block (zx (zR ?_)))))
  refine zq (Qt_add rfl rfl (by omega) (by omega)) rfl (Qmi rfl rfl (zz (X_loop _ (by repeat (first | with_reducible exact agree_refl | refine agree_upd rfl ?_ | refine agree_mix rfl ?_ | refine agree_setAll rfl ?_)) (⟨k + 1, by rw [sumLen_take _ _ (by rw [certs_len]; exact hk)]; simp only [VoteV.abs, List.getElem_map, List.map_cons, List.map_nil]; rw [← Int.natCast_add, Nat.add_assoc]; rfl, rfl, by omega⟩) (by show v.cert.ls.length - (k + 1 : Int).toNat < v.cert.ls.length - (k : Int).toNat; omega) (SB))))
 have p19 := h19
 try simp only [dp] at p19
 have et : v.abs.cert.take k = v.abs.cert := List.take_of_length_le (by rw [certs_len]; omega)
 simp only [et]
 refine zY (zG (zW (zE (zx (zS (T2 ?_))))))
 refine Qmi rfl rfl (zq (Qt_gtr rfl rfl) rfl (TX (zC rfl (fun h28 => ?_) (fun h28 => ?_))))
 ·
  have p28 := h28
  try simp only [dp] at p28
  refine T2 (Qas rfl rfl (Qai rfl rfl (TX (zQ (zr ?_)))))
  have e : putV v.abs = ([], 4) := by unfold putV; rw [if_neg p11, if_pos (by show 65536 < v.batch.l.length + _; omega)]
  simp only [e]
  exact zX ⟨none, 0⟩ [_, _] Tryz.results30 ⟨rfl, rfl, trivial⟩ rfl (fun w hw => (SB w hw : St w0 H w).addNilB 5)
 have p28 := h28
 try simp only [dp] at p28
 have p28b : ¬ 65536 < v.abs.batch.length + sumLen v.abs.cert := by show ¬ 65536 < v.batch.l.length + _; omega
 refine S4 (zq (zn rfl rfl) rfl ?_)
 refine ze rfl (zc (vtold_c (by omega) (by have := p11; rw [certs_len] at this; omega) (fun x hx => by have := le_sumLen v.abs.cert x.l (List.mem_map.2 ⟨x, hx, rfl⟩); omega)) rfl (fun x30 => ?_))
 refine Qas rfl rfl (TX (zS (zB (T2 ?_))))
 refine Qms rfl rfl (zq (zL rfl Tryz.underlying41) rfl (zq (Qt_gtr rfl rfl) rfl (Qab rfl rfl (TX (zC rfl (fun h31 => ?_) (fun h31 => ?_))))))
 ·
  have p31 := h31
  try simp only [dp] at p31
  refine T2 (Qas rfl rfl (Qai rfl rfl (TX (zQ (zb (zr ?_))))))
  have e : putV v.abs = ([], 4) := by unfold putV; rw [if_neg p11, if_neg p28b, if_pos (by omega)]
  simp only [e]
  exact zX ⟨none, 0⟩ [_, _] Tryz.results30 ⟨rfl, rfl, trivial⟩ rfl (fun w hw => (SB w hw : St w0 H w).addNilB 5)
 have p31 := h31
 try simp only [dp] at p31
 refine T2 (zq (zn rfl rfl) rfl ?_)
 refine ze rfl (zc (formed_c) rfl (fun x37 => ?_))
 refine zq (Qt_not rfl) rfl (Qab rfl rfl (TX (zC rfl (fun h35 => ?_) (fun h35 => ?_))))
 ·
  have p35 := h35
  try simp only [dp] at p35
  refine T2 (Qas rfl rfl (Qai rfl rfl (TX (zQ (zb (zr ?_))))))
  have e : putV v.abs = ([], 15) := by unfold putV; rw [if_neg p11, if_neg p28b, if_neg (by omega), if_neg (by simpa using h35)]
  simp only [e]
  exact zX ⟨none, 0⟩ [_, _] Tryz.results30 ⟨rfl, rfl, trivial⟩ rfl (fun w hw => (SB w hw : St w0 H w).addNilB 5)
 have p35 := h35
 try simp only [dp] at p35
 refine zk (X_block (zx (T2 ?_)))
 refine Qms rfl rfl (Qas rfl rfl (Qai rfl rfl (TX (zQ ?_))))
 have e : putV v.abs = (told v.abs, 0) := by unfold putV; rw [if_neg p11, if_neg p28b, if_neg (by omega), if_pos (by simpa using h35)]
 simp only [e]
 exact zX ⟨x30.a, x30.c⟩ [_, _] Tryz.results30 ⟨rfl, rfl, trivial⟩ rfl SB
theorem longOne_neg {v : VoteV} (h1 : ¬ 500 < v.batch.l.length) (h2 : ¬ 20 < v.cert.ls.length) (h3 : ((v.cert.ls.map BS.l).any fun c => decide (300 < c.length)) = false) : longOne v.abs = false := by
 have e1 : decide (500 < v.abs.batch.length) = false := decide_eq_false h1
 have e2 : decide (20 < v.abs.cert.length) = false := decide_eq_false (by rw [certs_len]; exact h2)
 have e3 : (v.abs.cert.any fun c => decide (300 < c.length)) = false := h3
 simp only [longOne, e1, e2, e3, Bool.or_self]
theorem longOne_1 {v : VoteV} (h : 500 < v.batch.l.length) : longOne v.abs = true := by simp [longOne, VoteV.abs, h]
theorem longOne_2 {v : VoteV} (h : 20 < v.cert.ls.length) : longOne v.abs = true := by simp [longOne, VoteV.abs, h]
theorem longOne_3 {v : VoteV} (k : Nat) (hk : k < v.cert.ls.length) (h : 300 < v.cert.ls[k].l.length) : longOne v.abs = true := by
 have : (v.abs.cert.any fun c => decide (300 < c.length)) = true := any_of_get _ v.abs.cert k (by rw [certs_len]; exact hk) (by simpa [VoteV.abs] using h)
 simp [longOne, this]
theorem longB_of {vs : List VoteV} (k : Nat) (hk : k < vs.length) (h : longOne vs[k].abs = true) : longB (vs.map VoteV.abs) = true := by
 have := any_of_get longOne (vs.map VoteV.abs) k (by simpa using hk) (by simpa using h)
 simp [longB, this]
theorem vote_pos {vs : List VoteV} {i : Nat} (hi : i < vs.length) : 0 < (vs.flatMap VoteV.list).length := by rw [flat_len _ 38 VoteV.list_len]; omega
/-- Each vote of a list reads. -/
class RdVs (w0 : World) (H : List SA) (vs : List VoteV) : Prop where
 b : ∀ v ∈ vs, RdB w0 H (.slice v.batch.a v.batch.l.length v.batch.c) v.batch.l
 c : ∀ v ∈ vs, RdC w0 H (.slice v.cert.a v.cert.ls.length v.cert.c) 1 (v.cert.ls.map BS.val)
 e : ∀ v ∈ vs, RdE w0 H v.cert.ls
instance RdVs.tail {w0 : World} {H : List SA} {x : SA} {vs : List VoteV} [h : RdVs w0 H vs] : RdVs w0 (x :: H) vs := ⟨fun v hv => have := h.b v hv; inferInstance, fun v hv => have := h.c v hv; inferInstance, fun v hv => have := h.e v hv; inferInstance⟩

set_option maxHeartbeats 1000000 in
theorem long_c {w0 : World} {H : List SA} {a : Option Addr} {vs : List VoteV} {c : Nat} [hr : RdC w0 H (.slice a vs.length c) 38 (vs.flatMap VoteV.list)] [rv : RdVs w0 H vs] :
 CT Tryz.prog w0 (H) 5 [.slice a vs.length c] (α := Unit) (fun _ => .bool (longB (vs.map VoteV.abs))) (fun _ => H) := by
 refine CT_intro Tryz.func5 rfl Tryz.ntmps5 rfl ?_
 refine T2 (Qab rfl rfl (TX (zS (T2 ?_))))
 refine Qms rfl rfl (zq (zL rfl Tryz.underlying22) rfl (zq (Qt_gtr rfl rfl) rfl (TX (zC rfl (fun h7 => ?_) (fun h7 => ?_)))))
 ·
  have p7 := h7
  try simp only [dp] at p7
  refine T2 (Qab rfl rfl (TX (zQ (zr ?_))))
  have e : longB (vs.map VoteV.abs) = true := by simp [longB]; left; omega
  exact zX () [_] Tryz.results5 ⟨rfl, trivial⟩ (by rw [e]; rfl) SB
 have p7 := h7
 try simp only [dp] at p7
 refine zk (zx (zS (T2 ?_)))
 refine Qai rfl rfl (TX (zB ?_))
 refine T_loop [2, 3, 4, 8, 9, 10, 11, 12, 13, 14, 15, 16, 17, 18, 19, 20, 21, 22, 23, 24, 25, 26, 27, 28, 29, 30, 31, 32, 33, 34, 35, 36, 37, 38, 39, 40, 41, 42, 43, 44, 45, 46, 47, 48, 49] [3] (fun us H' => ∃ i : Nat, us = [.int .i64 (i : Int)] ∧ H = H' ∧ i ≤ vs.length ∧ ((vs.map VoteV.abs).take i).any longOne = false) (fun us => match us with | .int _ i :: _ => vs.length - i.toNat | _ => 0) ⟨0, rfl, rfl, by omega, rfl⟩ SB ?_
 rintro τ0 _ _  ⟨i, rfl, rfl, hi0, hpre⟩ _
 refine zS (T2 ?_)
 refine Qmi rfl rfl (Qms rfl rfl (zq (zL rfl Tryz.underlying22) rfl (zq (Qt_lss rfl rfl) rfl (TX (zC rfl (fun h11 => ?_) (fun h11 => ?_))))))
 ·
  have p11 := h11
  try simp only [dp] at p11
  have hi : i < vs.length := by omega
  refine zk (zx (zS (zB (zS (T2 ?_)))))
  refine Qms rfl rfl (Qmi rfl rfl (zq (Qt_indexN rfl rfl (by omega) (by omega)) rfl (zq (Qt_fieldR rfl 38 (vote_pos hi)) rfl (zq (Qt_loadRs 38 (.slice _ _ _) rfl (vote_get vs i 36 hi (by decide) inferInstance)) rfl (zq (zL rfl Tryz.underlying41) rfl ?_)))))
  refine zq (Qt_gtr rfl rfl) rfl (Qmb rfl rfl ?_)
  refine TL_split 21 rfl (fun h21 => ?_) (fun h21 => ?_)
  ·
   have p21 := h21
   try simp only [dp] at p21
   refine zp rfl rfl h21 rfl (zp rfl rfl h21 rfl (zp rfl rfl h21 rfl (zp rfl rfl h21 rfl (zp rfl rfl h21 rfl (zp rfl rfl h21 rfl ?_)))))
   refine zp rfl rfl h21 rfl (zq (zT (.bool _) rfl h21 rfl) rfl (TX (T_cond_true rfl rfl (T2 (Qab rfl rfl ?_)))))
   refine TX (zQ (zr (zb (zr (X_loop_ret (zb (zr ?_)))))))
   have e := longB_of i hi (longOne_1 (by omega))
   exact zX () [_] Tryz.results5 ⟨rfl, trivial⟩ (by rw [e]; rfl) SB
  have p21 := h21
  try simp only [dp] at p21
  refine zt rfl rfl h21 (Qms rfl rfl (zt rfl rfl h21 (Qmi rfl rfl (zt rfl rfl h21 (zq (Qt_indexN rfl rfl (by omega) (by omega)) rfl ?_)))))
  refine zt rfl rfl h21 (zq (Qt_fieldR rfl 38 (vote_pos hi)) rfl (zt rfl rfl h21 (zq (Qt_loadRs 38 (.slice _ _ _) rfl (vote_get vs i 37 hi (by decide) inferInstance)) rfl (zt rfl rfl h21 (zq (zL rfl Tryz.underlying42) rfl ?_)))))
  refine zt rfl rfl h21 (zq (Qt_gtr rfl rfl) rfl (zq (zF (.bool _) rfl h21 rfl) rfl (TX (zC rfl (fun h29 => ?_) (fun h29 => ?_)))))
  ·
   have p29 := h29
   try simp only [dp] at p29
   refine T2 (Qab rfl rfl (TX (zQ (zr (zb (zr (X_loop_ret (zb (zr ?_)))))))))
   have e := longB_of i hi (longOne_2 (by omega))
   exact zX () [_] Tryz.results5 ⟨rfl, trivial⟩ (by rw [e]; rfl) SB
  have p29 := h29
  try simp only [dp] at p29
  refine S4 (Qai rfl rfl (TX (zB ?_)))
  refine T_loop [2, 4, 30, 31, 32, 33, 34, 35, 36, 37, 38, 39, 40, 41, 42, 43, 44, 45, 46, 47, 48, 49] [4] (fun us H' => ∃ k : Nat, us = [.int .i64 (k : Int)] ∧ H = H' ∧ k ≤ vs[i].cert.ls.length ∧ ((vs[i].cert.ls.map BS.l).take k).any (fun c => decide (300 < c.length)) = false) (fun us => match us with | .int _ k :: _ => vs[i].cert.ls.length - k.toNat | _ => 0) ⟨0, rfl, rfl, by omega, rfl⟩ SB ?_
  rintro τ1 _ _  ⟨k, rfl, rfl, hk0, hpre2⟩ _
  refine zS (T2 ?_)
  refine Qmi rfl rfl (Qms rfl rfl (Qmi rfl rfl (zq (Qt_indexN rfl rfl (by omega) (by omega)) rfl (zq (Qt_fieldR rfl 38 (vote_pos hi)) rfl (zq (Qt_loadRs 38 (.slice _ _ _) rfl (vote_get vs i 37 hi (by decide) inferInstance)) rfl ?_)))))
  refine zq (zL rfl Tryz.underlying42) rfl (zq (Qt_lss rfl rfl) rfl (TX (zC rfl (fun h37 => ?_) (fun h37 => ?_))))
  ·
   have p37 := h37
   try simp only [dp] at p37
   have hk : k < vs[i].cert.ls.length := by omega
   refine zk (zx (zS (zB (T2 ?_))))
   refine Qms rfl rfl (Qmi rfl rfl (zq (Qt_indexN rfl rfl (by omega) (by omega)) rfl (zq (Qt_fieldR rfl 38 (vote_pos hi)) rfl (zq (Qt_loadRs 38 (.slice _ _ _) rfl (vote_get vs i 37 hi (by decide) inferInstance)) rfl (Qmi rfl rfl ?_)))))
   have := rv.c vs[i] (List.getElem_mem hi)
   refine zq (Qt_indexR rfl rfl (by omega) (by simp; omega)) rfl (zq (Qt_loadR (.slice _ _ _) rfl (vals_get _ _ hk)) rfl (zq (zL rfl Tryz.underlying41) rfl (zq (Qt_gtr rfl rfl) rfl (TX (zC rfl (fun h49 => ?_) (fun h49 => ?_))))))
   ·
    have p49 := h49
    try simp only [dp] at p49
    refine T2 (Qab rfl rfl (TX (zQ (zb (zr (X_loop_ret (zb (zb (zr (X_loop_ret (zb (zr ?_))))))))))))
    have e := longB_of i hi (longOne_3 k hk (by omega))
    exact zX () [_] Tryz.results5 ⟨rfl, trivial⟩ (by rw [e]; rfl) SB
   have p49 := h49
   try simp only [dp] at p49
   refine zk (X_block (zx (zR ?_)))
   refine Qmi rfl rfl (zq (Qt_add rfl rfl (by omega) (by omega)) rfl (Qai rfl rfl (zz (X_loop _ (by repeat (first | with_reducible exact agree_refl | refine agree_upd rfl ?_ | refine agree_mix rfl ?_ | refine agree_setAll rfl ?_)) (⟨k + 1, rfl, rfl, by omega, any_take_snoc _ (vs[i].cert.ls.map BS.l) k (by simpa using hk) hpre2 (by simp; omega)⟩) (by show vs[i].cert.ls.length - (k + 1 : Int).toNat < vs[i].cert.ls.length - (k : Int).toNat; omega) (SB)))))
  have p37 := h37
  try simp only [dp] at p37
  have et2 : (vs[i].cert.ls.map BS.l).take k = vs[i].cert.ls.map BS.l := List.take_of_length_le (by simp; omega)
  rw [et2] at hpre2
  have hone : longOne vs[i].abs = false := longOne_neg (by omega) (by omega) hpre2
  refine zY (zG (zW (zE (X_block (zx (zR ?_))))))
  refine Qmi rfl rfl (zq (Qt_add rfl rfl (by omega) (by omega)) rfl (Qai rfl rfl (zz (X_loop _ (by repeat (first | with_reducible exact agree_refl | refine agree_upd rfl ?_ | refine agree_mix rfl ?_ | refine agree_setAll rfl ?_)) (⟨i + 1, rfl, rfl, by omega, any_take_snoc longOne (vs.map VoteV.abs) i (by simpa using hi) hpre (by simpa using hone)⟩) (by show vs.length - (i + 1 : Int).toNat < vs.length - (i : Int).toNat; omega) (SB)))))
 have p11 := h11
 try simp only [dp] at p11
 have et : (vs.map VoteV.abs).take i = vs.map VoteV.abs := List.take_of_length_le (by simp; omega)
 rw [et] at hpre
 refine zY (zG (zW (zE (zx (T2 ?_)))))
 refine Qab rfl rfl (TX (zQ ?_))
 have e : longB (vs.map VoteV.abs) = false := by simp only [longB, hpre, Bool.or_false]; simp; omega
 exact zX () [_] Tryz.results5 ⟨rfl, trivial⟩ (by rw [e]; rfl) SB
end
end Go.Proofs.YtgeknnclmhfjlaaGreatDoor
