/- Walks: bound and Valid of package stops. -/
import Derived.Test.YtnijomppbgdmnaaGreatSgP
import Derived.Test.YtnijomppbgdmnaaGreatQcRP
import Derived.Test.YtnijomppbgdmnaaGreatMbRP
import Derived.Test.YtnijomppbgdmnaaGreatSjRP
import Derived.Test.YtnijomppbgdmnaaGreatSuP
set_option linter.unusedSimpArgs false
set_option linter.unusedVariables false
namespace Go.Proofs.YtnijomppbgdmnaaGreat
section
open Go.RowKit Go.Sx
set_option maxRecDepth 100000
structure BindD where
 last : Int
 has : Bool
 reg : Int
 hash : Vector UInt8 32
 batch : List UInt8
@[reducible] def BindD.zero : BindD := ⟨0, false, 0, zeroV 32, []⟩
def BindV.abs (b : BindV) : BindD := ⟨b.last, b.has, b.reg, b.hash, b.batch.l⟩
attribute [local irreducible] sha decidD cbE
end
section
open Go.RowKit Go.Sx
set_option maxRecDepth 100000
theorem row_le {w0 w : World} {H : List SA} {a : Option Addr} {n c e sz : Nat} {xs : List Value} (h : St w0 (row (.slice a n c) e sz xs :: H) w) : n ≤ c := by
 obtain ⟨a', n', c', hv, -, hn, -⟩ := h.holds (row (.slice a n c) e sz xs) (by simp)
 simp at hv; omega
end
section
open Go.RowKit Go.Sx
set_option maxRecDepth 100000
theorem prs_small : ∀ (n : Nat) (l : List UInt8), (∀ x ∈ (prs n l).2.1, x.length ≤ l.length) ∧ (prs n l).2.1.length ≤ n
 | 0, l => by simp [prs]
 | n + 1, l => by
  have h1 := (rdText_bound l 65536).2
  have h2 := prs_small n (l.drop (rdText l 65536).2.2)
  rw [List.length_drop] at h2
  unfold prs
  split
  · simp
  · split
    · simp
    · refine ⟨fun x hx => ?_, by simp; exact h2.2⟩
      rcases List.mem_cons.1 hx with rfl | hx
      · exact h1
      · have := h2.1 x hx; omega
theorem partsR_small (l : List UInt8) : (∀ x ∈ (partsR l).2.1, x.length ≤ l.length) ∧ (partsR l).2.1.length ≤ 16 := by
 unfold partsR
 split
 · simp
 · rename_i hc
   have h2 := prs_small (rdCount l 16).2.1 (l.drop (rdCount l 16).2.2)
   have h3 := rdCount_ok (show (rdCount l 16).1 = 0 by omega)
   have h4 : ((rdCount l 16).2.1 : Int) ≤ 16 := by rw [h3.1]; exact h3.2.1
   rw [List.length_drop] at h2
   split
   · simp
   · exact ⟨fun x hx => by have := h2.1 x hx; omega, by have := h2.2; show (prs _ _).2.1.length ≤ 16; omega⟩
def Small2 (m : MsgD) (n : Nat) : Prop := m.body.length ≤ n ∧ (∀ x ∈ m.parts, x.length ≤ n) ∧ m.parts.length ≤ 16
theorem Small2.zero (n : Nat) : Small2 .zero n := ⟨Nat.zero_le _, fun x hx => (by cases hx), Nat.zero_le _⟩
theorem msgR_small2 (l : List UInt8) : Small2 (msgR l).2 l.length := by
 have hb := (rdText_bound (l.drop (8 + 32)) 65536).2
 have hp := partsR_small (l.drop (8 + 32 + (bodyR l).2.2))
 rw [List.length_drop] at hb hp
 unfold msgR
 repeat' split
 all_goals first | exact Small2.zero _ | exact ⟨by show (bodyR l).2.1.length ≤ _; unfold bodyR; omega, fun x hx => by have := hp.1 x hx; omega, hp.2⟩
theorem getM_small2 (l : List UInt8) : Small2 (getM l).2 l.length := by
 unfold getM
 repeat' split
 all_goals first | exact Small2.zero _ | exact msgR_small2 l
theorem openK_small2 (K : List (List UInt8)) (l : List UInt8) : Small2 (openK K l).2 l.length := by
 unfold openK
 repeat' split
 all_goals first | exact Small2.zero _ | (have h := getM_small2 (l.take (l.length - 32)); rw [List.length_take] at h; exact ⟨by have := h.1; show (getM (l.take (l.length - 32))).2.body.length ≤ _; omega, fun x hx => by have := h.2.1 x hx; omega, h.2.2⟩)
theorem openOfK_small2 (K : List (List UInt8)) (mk : Nat) (l : List UInt8) : Small2 (openOfK K mk l).2 l.length := by
 unfold openOfK
 split
 · exact Small2.zero _
 · exact openK_small2 K l
end
end Go.Proofs.YtnijomppbgdmnaaGreat
