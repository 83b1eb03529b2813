/- Walks of package reqs: which requests are formed, their texts, the request of bytes. -/
import Derived.Test.YtnijomppbgdmnaaGreatSgP
import Derived.Test.YtnijomppbgdmnaaGreatQaRP
import Derived.Test.YtnijomppbgdmnaaGreatKcRP
import Derived.Test.YtnijomppbgdmnaaGreatTcP
import Derived.Test.YtnijomppbgdmnaaGreatSuP
set_option linter.unusedSimpArgs false
set_option linter.unusedVariables false
namespace Go.Proofs.YtnijomppbgdmnaaGreat
section
open Go.RowKit Go.Sx
set_option maxRecDepth 100000
set_option maxHeartbeats 1000000
/-- A request as data. -/
structure ReqD where
 client : Int
 seq : Int
 kind : Int
 key : Int
 a : Int
 b : Int
 sig : List UInt8
@[reducible] def ReqD.zero : ReqD := ⟨0, 0, 0, 0, 0, 0, []⟩
def ReqV.abs (r : ReqV) : ReqD := ⟨r.client, r.seq, r.op.kind, r.op.key, r.op.a, r.op.b, r.sig.l⟩
def rightQ (c kind key a b : Int) : Bool :=
 if c = 0 then decide (kind = 6 ∧ key = 0 ∧ b = 0 ∧ 0 ≤ a ∧ a ≤ 65535)
 else decide ((0 ≤ key ∧ key < 16) ∧ (((kind = 1 ∨ kind = 5) ∧ a = 0 ∧ b = 0) ∨ ((kind = 2 ∨ kind = 3) ∧ b = 0) ∨ kind = 4))
def formedQ (r : ReqD) : Bool := decide ((0 ≤ r.client ∧ r.client < 6) ∧ (1 ≤ r.seq ∧ r.seq ≤ 8) ∧ rightQ r.client r.kind r.key r.a r.b = true ∧ r.sig.length ≤ 1000)
def textQ (r : ReqD) : List UInt8 := if formedQ r = false then [] else putFixed (putFixed (putFixed (putFixed [] (IntKind.u64.wrap r.client) 1) (IntKind.u64.wrap r.seq) 1) (IntKind.u64.wrap r.kind) 1) (IntKind.u64.wrap r.key) 1 ++ packed (foldN r.a) ++ packed (foldN r.b)
def Sig64 (x : Int) : Prop := -9223372036854775808 ≤ x ∧ x ≤ 9223372036854775807
/-- What a request's text tells. -/
def textG (l : List UInt8) : Int × ReqD :=
 if l.length < 4 then (1, .zero) else if (rdPacked (l.drop 4)).1 ≠ 0 then ((rdPacked (l.drop 4)).1, .zero)
 else if (rdPacked (l.drop (4 + (rdPacked (l.drop 4)).2.2))).1 ≠ 0 then ((rdPacked (l.drop (4 + (rdPacked (l.drop 4)).2.2))).1, .zero)
 else (if 4 + (rdPacked (l.drop 4)).2.2 + (rdPacked (l.drop (4 + (rdPacked (l.drop 4)).2.2))).2.2 < l.length then 2 else 0,
  ⟨(l.getD 0 0).toNat, (l.getD 1 0).toNat, (l.getD 2 0).toNat, (l.getD 3 0).toNat, unfoldN (rdPacked (l.drop 4)).2.1, unfoldN (rdPacked (l.drop (4 + (rdPacked (l.drop 4)).2.2))).2.1, []⟩)
/-- The request of bytes. -/
def getG (l : List UInt8) : Int × ReqD :=
 if (rdText l 100).1 ≠ 0 then ((rdText l 100).1, .zero) else if (textG (rdText l 100).2.1).1 ≠ 0 then ((textG (rdText l 100).2.1).1, .zero)
 else if (rdText (l.drop (rdText l 100).2.2) 1000).1 ≠ 0 then ((rdText (l.drop (rdText l 100).2.2) 1000).1, .zero)
 else if (rdText l 100).2.2 + (rdText (l.drop (rdText l 100).2.2) 1000).2.2 < l.length then (2, .zero)
 else if formedQ { (textG (rdText l 100).2.1).2 with sig := (rdText (l.drop (rdText l 100).2.2) 1000).2.1 } = false then (15, .zero)
 else (0, { (textG (rdText l 100).2.1).2 with sig := (rdText (l.drop (rdText l 100).2.2) 1000).2.1 })
theorem putFixed1 (l : List UInt8) (x : Int) : (putFixed l x 1).length = l.length + 1 := by
 unfold putFixed
 rw [if_pos (show wideB 1 = true from rfl), List.length_append, fixed_length]; rfl
theorem textQ_len {r : ReqD} (ha : Sig64 r.a) (hb : Sig64 r.b) : (textQ r).length ≤ 100 := by
 unfold textQ
 split
 · simp
 · have h1 := packed_length_le (foldN r.a) (foldN_lt ha)
   have h2 := packed_length_le (foldN r.b) (foldN_lt hb)
   simp only [List.length_append, putFixed1, List.length_nil]
   omega
theorem sig64_zero : Sig64 0 := ⟨by decide, by decide⟩
theorem textG_sig (l : List UInt8) : Sig64 (textG l).2.a ∧ Sig64 (textG l).2.b := by
 unfold textG
 repeat' split
 all_goals first | exact ⟨sig64_zero, sig64_zero⟩ | exact ⟨unfoldN_range (rdPacked_bound _).2.2, unfoldN_range (rdPacked_bound _).2.2⟩
theorem getG_sig (l : List UInt8) : Sig64 (getG l).2.a ∧ Sig64 (getG l).2.b := by
 have h := textG_sig (rdText l 100).2.1
 unfold getG
 repeat' split
 all_goals first | exact ⟨sig64_zero, sig64_zero⟩ | exact h
attribute [local irreducible] sha putFixed
theorem right_c {w0 : World} {H : List SA} {c : Int} {o : OpV} :
 CT Tryz.prog w0 (H) 177 [.int .i64 c, .agg o.cells] (α := Unit) (fun _ => .bool (rightQ c o.kind o.key o.a o.b)) (fun _ => H) := by
 refine CT_intro Tryz.func177 rfl Tryz.ntmps177 rfl (T2 (ze rfl (Ef_boxN rfl (fun b3 => ?_))))
 refine Qab rfl rfl (TX (zS (T2 (Qmi rfl rfl (zy (Qt_eql rfl rfl) (TX (zC rfl (fun h6 => ?_) (fun h6 => ?_))))))))
 ·
  have p6 := cL h6
  refine T2 (zy (zf 0 rfl rfl) (zy (zl rfl) (zy (Qt_eql rfl rfl) (Qmb rfl rfl (TL_split 10 rfl (fun h10 => ?_) (fun h10 => ?_))))))
  ·
   have p10 := cL h10
   refine zt rfl rfl h10 (zy (zf 1 rfl rfl) (zt rfl rfl h10 (zy (zl rfl) (zt rfl rfl h10 (zy (Qt_eql rfl rfl) (zy (zT (.bool _) rfl h10 rfl) (Qmb rfl rfl (TL_split 15 rfl (fun h15 => ?_) (fun h15 => ?_)))))))))
   ·
    have p15 := cL h15
    refine zt rfl rfl h15 (zy (zf 3 rfl rfl) (zt rfl rfl h15 (zy (zl rfl) (zt rfl rfl h15 (zy (Qt_eql rfl rfl) (zy (zT (.bool _) rfl h15 rfl) (Qmb rfl rfl (TL_split 20 rfl (fun h20 => ?_) (fun h20 => ?_)))))))))
    ·
     have p20 := cL h20
     refine zt rfl rfl h20 (zy (zf 2 rfl rfl) (zt rfl rfl h20 (zy (zl rfl) (zt rfl rfl h20 (zy (Qt_geq rfl rfl) (zy (zT (.bool _) rfl h20 rfl) (Qmb rfl rfl (TL_split 25 rfl (fun h25 => ?_) (fun h25 => ?_)))))))))
     ·
      have p25 := cL h25
      refine zt rfl rfl h25 (zy (zf 2 rfl rfl) (zt rfl rfl h25 (zy (zl rfl) (zt rfl rfl h25 (zy (Qt_leq rfl rfl) (zy (zT (.bool _) rfl h25 rfl) (Qab rfl rfl (TX (zQ (zr ?_))))))))))
      exact zX () [_] Tryz.results177 ⟨rfl, trivial⟩ (congrArg Value.bool (by first | (unfold rightQ; simp_all; done) | (unfold rightQ; simp_all; omega) | (unfold rightQ; rw [if_pos (by omega)]; simp_all) | (unfold rightQ; rw [if_neg (by omega)]; simp_all <;> omega))) SB
     have p25 := cL h25
     refine zp rfl rfl h25 rfl (zp rfl rfl h25 rfl (zp rfl rfl h25 rfl (zy (zF (.bool _) rfl h25 rfl) (Qab rfl rfl (TX (zQ (zr ?_)))))))
     exact zX () [_] Tryz.results177 ⟨rfl, trivial⟩ (congrArg Value.bool (by first | (unfold rightQ; simp_all; done) | (unfold rightQ; simp_all; omega) | (unfold rightQ; rw [if_pos (by omega)]; simp_all) | (unfold rightQ; rw [if_neg (by omega)]; simp_all <;> omega))) SB
    have p20 := cL h20
    refine zp rfl rfl h20 rfl (zp rfl rfl h20 rfl (zp rfl rfl h20 rfl (zy (zF (.bool _) rfl h20 rfl) (Qmb rfl rfl (zo (zo (zo (zy (zF (.bool _) rfl rfl rfl) (Qab rfl rfl (TX (zQ (zr ?_))))))))))))
    exact zX () [_] Tryz.results177 ⟨rfl, trivial⟩ (congrArg Value.bool (by first | (unfold rightQ; simp_all; done) | (unfold rightQ; simp_all; omega) | (unfold rightQ; rw [if_pos (by omega)]; simp_all) | (unfold rightQ; rw [if_neg (by omega)]; simp_all <;> omega))) SB
   have p15 := cL h15
   refine zp rfl rfl h15 rfl (zp rfl rfl h15 rfl (zp rfl rfl h15 rfl (zy (zF (.bool _) rfl h15 rfl) (Qmb rfl rfl (zo (zo (zo (zy (zF (.bool _) rfl rfl rfl) (Qmb rfl rfl (zo (zo (zo (zy (zF (.bool _) rfl rfl rfl) (Qab rfl rfl (TX (zQ (zr ?_)))))))))))))))))
   exact zX () [_] Tryz.results177 ⟨rfl, trivial⟩ (congrArg Value.bool (by first | (unfold rightQ; simp_all; done) | (unfold rightQ; simp_all; omega) | (unfold rightQ; rw [if_pos (by omega)]; simp_all) | (unfold rightQ; rw [if_neg (by omega)]; simp_all <;> omega))) SB
  have p10 := cL h10
  refine zp rfl rfl h10 rfl (zp rfl rfl h10 rfl (zp rfl rfl h10 rfl (zy (zF (.bool _) rfl h10 rfl) (Qmb rfl rfl (zo (zo (zo (zy (zF (.bool _) rfl rfl rfl) (Qmb rfl rfl (zo (zo (zo (zy (zF (.bool _) rfl rfl rfl) (Qmb rfl rfl (zo (zo (zo ?_)))))))))))))))))
  refine zy (zF (.bool _) rfl rfl rfl) (Qab rfl rfl (TX (zQ (zr ?_))))
  exact zX () [_] Tryz.results177 ⟨rfl, trivial⟩ (congrArg Value.bool (by first | (unfold rightQ; simp_all; done) | (unfold rightQ; simp_all; omega) | (unfold rightQ; rw [if_pos (by omega)]; simp_all) | (unfold rightQ; rw [if_neg (by omega)]; simp_all <;> omega))) SB
 have p6 := cL h6
 refine zk (zx (zS (T2 (zy (zf 1 rfl rfl) (zy (zl rfl) (zy (Qt_lss rfl rfl) (Qmb rfl rfl (TL_split 33 rfl (fun h33 => ?_) (fun h33 => ?_)))))))))
 ·
  have p33 := cL h33
  refine zp rfl rfl h33 rfl (zp rfl rfl h33 rfl (zp rfl rfl h33 rfl (zy (zT (.bool _) rfl h33 rfl) (TX (T_cond_true rfl rfl (T2 (Qab rfl rfl (TX (zQ (zr ?_))))))))))
  exact zX () [_] Tryz.results177 ⟨rfl, trivial⟩ (congrArg Value.bool (by first | (unfold rightQ; simp_all; done) | (unfold rightQ; simp_all; omega) | (unfold rightQ; rw [if_pos (by omega)]; simp_all) | (unfold rightQ; rw [if_neg (by omega)]; simp_all <;> omega))) SB
 have p33 := cL h33
 refine zt rfl rfl h33 (zy (zf 1 rfl rfl) (zt rfl rfl h33 (zy (zl rfl) (zt rfl rfl h33 (zy (Qt_geq rfl rfl) (zy (zF (.bool _) rfl h33 rfl) (TX (zC rfl (fun h37 => ?_) (fun h37 => ?_)))))))))
 ·
  have p37 := cL h37
  refine T2 (Qab rfl rfl (TX (zQ (zr ?_))))
  exact zX () [_] Tryz.results177 ⟨rfl, trivial⟩ (congrArg Value.bool (by first | (unfold rightQ; simp_all; done) | (unfold rightQ; simp_all; omega) | (unfold rightQ; rw [if_pos (by omega)]; simp_all) | (unfold rightQ; rw [if_neg (by omega)]; simp_all <;> omega))) SB
 have p37 := cL h37
 refine zk (zx (zS (T2 (zy (zf 0 rfl rfl) (zy (zl rfl) (TX (zB (zS (zB (zS (zB (zS (zB (zS (zS (zS (T2 ?_)))))))))))))))))
 refine zy (Qt_eql rfl rfl) (Qab rfl rfl (TX (zC rfl (fun h40 => ?_) (fun h40 => ?_))))
 ·
  have p40 := cL h40
  refine zk (zx (T_cond_true rfl h40 (zY (zG (zG (zE (zx (T2 (zy (zf 2 rfl rfl) (zy (zl rfl) (zy (Qt_neq rfl rfl) (TX (zC rfl (fun h50 => ?_) (fun h50 => ?_))))))))))))))
  ·
   have p50 := cL h50
   refine T2 (Qab rfl rfl (TX (zQ (zb (zr (zb (zr (zb (zr ?_)))))))))
   exact zX () [_] Tryz.results177 ⟨rfl, trivial⟩ (congrArg Value.bool (by first | (unfold rightQ; simp_all; done) | (unfold rightQ; simp_all; omega) | (unfold rightQ; rw [if_pos (by omega)]; simp_all) | (unfold rightQ; rw [if_neg (by omega)]; simp_all <;> omega))) SB
  have p50 := cL h50
  refine zk (X_block (zx (zS (T2 (zy (zf 3 rfl rfl) (zy (zl rfl) (zy (Qt_eql rfl rfl) (Qab rfl rfl (TX (zQ (zr (zb (zr (zb (zr ?_)))))))))))))))
  exact zX () [_] Tryz.results177 ⟨rfl, trivial⟩ (congrArg Value.bool (by first | (unfold rightQ; simp_all; done) | (unfold rightQ; simp_all; omega) | (unfold rightQ; rw [if_pos (by omega)]; simp_all) | (unfold rightQ; rw [if_neg (by omega)]; simp_all <;> omega))) SB
 have p40 := cL h40
 refine zR (zy (Qt_eql rfl rfl) (Qab rfl rfl (TX (zC rfl (fun h40 => ?_) (fun h40 => ?_)))))
 ·
  have p40 := cL h40
  refine zY (zG (zG (zE (zx (T2 (zy (zf 2 rfl rfl) (zy (zl rfl) (zy (Qt_neq rfl rfl) (TX (zC rfl (fun h50 => ?_) (fun h50 => ?_)))))))))))
  ·
   have p50 := cL h50
   refine T2 (Qab rfl rfl (TX (zQ (zb (zr (zb (zr (zb (zr ?_)))))))))
   exact zX () [_] Tryz.results177 ⟨rfl, trivial⟩ (congrArg Value.bool (by first | (unfold rightQ; simp_all; done) | (unfold rightQ; simp_all; omega) | (unfold rightQ; rw [if_pos (by omega)]; simp_all) | (unfold rightQ; rw [if_neg (by omega)]; simp_all <;> omega))) SB
  have p50 := cL h50
  refine zk (X_block (zx (zS (T2 (zy (zf 3 rfl rfl) (zy (zl rfl) (zy (Qt_eql rfl rfl) (Qab rfl rfl (TX (zQ (zr (zb (zr (zb (zr ?_)))))))))))))))
  exact zX () [_] Tryz.results177 ⟨rfl, trivial⟩ (congrArg Value.bool (by first | (unfold rightQ; simp_all; done) | (unfold rightQ; simp_all; omega) | (unfold rightQ; rw [if_pos (by omega)]; simp_all) | (unfold rightQ; rw [if_neg (by omega)]; simp_all <;> omega))) SB
 have p40 := cL h40
 refine zk (zx (zS (zS (T2 (zy (Qt_eql rfl rfl) (Qab rfl rfl (TX (zC rfl (fun h43 => ?_) (fun h43 => ?_)))))))))
 ·
  have p43 := cL h43
  refine zk (zx (T_cond_true rfl h43 (zY (zG (zG (X_block_far rfl (zG (zE (zx (zS (T2 (zy (zf 3 rfl rfl) (zy (zl rfl) (zy (Qt_eql rfl rfl) (Qab rfl rfl (TX (zQ (zr (zb (zr (zb (zr ?_))))))))))))))))))))))
  exact zX () [_] Tryz.results177 ⟨rfl, trivial⟩ (congrArg Value.bool (by first | (unfold rightQ; simp_all; done) | (unfold rightQ; simp_all; omega) | (unfold rightQ; rw [if_pos (by omega)]; simp_all) | (unfold rightQ; rw [if_neg (by omega)]; simp_all <;> omega))) SB
 have p43 := cL h43
 refine zR (zy (Qt_eql rfl rfl) (Qab rfl rfl (TX (zC rfl (fun h43 => ?_) (fun h43 => ?_)))))
 ·
  have p43 := cL h43
  refine zY (zG (zG (X_block_far rfl (zG (zE (zx (zS (T2 (zy (zf 3 rfl rfl) (zy (zl rfl) (zy (Qt_eql rfl rfl) (Qab rfl rfl (TX (zQ (zr (zb (zr (zb (zr ?_)))))))))))))))))))
  exact zX () [_] Tryz.results177 ⟨rfl, trivial⟩ (congrArg Value.bool (by first | (unfold rightQ; simp_all; done) | (unfold rightQ; simp_all; omega) | (unfold rightQ; rw [if_pos (by omega)]; simp_all) | (unfold rightQ; rw [if_neg (by omega)]; simp_all <;> omega))) SB
 have p43 := cL h43
 refine S4 (zy (Qt_eql rfl rfl) (Qab rfl rfl (TX (zC rfl (fun h46 => ?_) (fun h46 => ?_)))))
 ·
  have p46 := cL h46
  refine zY (zG (X_block_far rfl (zG (X_block_far rfl (zG (zE (zx (zS (T2 (Qab rfl rfl (TX (zQ (zr (zb (zr ?_)))))))))))))))
  exact zX () [_] Tryz.results177 ⟨rfl, trivial⟩ (congrArg Value.bool (by first | (unfold rightQ; simp_all; done) | (unfold rightQ; simp_all; omega) | (unfold rightQ; rw [if_pos (by omega)]; simp_all) | (unfold rightQ; rw [if_neg (by omega)]; simp_all <;> omega))) SB
 have p46 := cL h46
 refine zk (zx (zY (X_block_far rfl (zG (X_block_far rfl (zG (X_block_far rfl (zG (zE (zx (T2 (Qab rfl rfl (TX (zQ ?_))))))))))))))
 exact zX () [_] Tryz.results177 ⟨rfl, trivial⟩ (congrArg Value.bool (by first | (unfold rightQ; simp_all; done) | (unfold rightQ; simp_all; omega) | (unfold rightQ; rw [if_pos (by omega)]; simp_all) | (unfold rightQ; rw [if_neg (by omega)]; simp_all <;> omega))) SB
theorem formedQ_c {w0 : World} {H : List SA} {r : ReqV} :
 CT Tryz.prog w0 (H) 150 [.agg r.cells] (α := Unit) (fun _ => .bool (formedQ r.abs)) (fun _ => H) := by
 refine CT_intro Tryz.func150 rfl Tryz.ntmps150 rfl (T2 (ze rfl (Ef_boxN rfl (fun b1 => ?_))))
 refine Qab rfl rfl (T4 (zy (zf 0 rfl rfl) (zy (zl rfl) (zy (Qt_geq rfl rfl) (Qmb rfl rfl (TL_split 6 rfl (fun h6 => ?_) (fun h6 => ?_)))))))
 ·
  have p6 := cL h6
  refine zt rfl rfl h6 (zy (zf 0 rfl rfl) (zt rfl rfl h6 (zy (zl rfl) (zt rfl rfl h6 (zy (Qt_lss rfl rfl) (zy (zT (.bool _) rfl h6 rfl) (Qmb rfl rfl (TL_split 11 rfl (fun h11 => ?_) (fun h11 => ?_)))))))))
  ·
   have p11 := cL h11
   refine zt rfl rfl h11 (zy (zf 1 rfl rfl) (zt rfl rfl h11 (zy (zl rfl) (zt rfl rfl h11 (zy (Qt_geq rfl rfl) (zy (zT (.bool _) rfl h11 rfl) (Qmb rfl rfl (TL_split 16 rfl (fun h16 => ?_) (fun h16 => ?_)))))))))
   ·
    have p16 := cL h16
    refine zt rfl rfl h16 (zy (zf 1 rfl rfl) (zt rfl rfl h16 (zy (zl rfl) (zt rfl rfl h16 (zy (Qt_leq rfl rfl) (zy (zT (.bool _) rfl h16 rfl) (Qmb rfl rfl (TL_split 21 rfl (fun h21 => ?_) (fun h21 => ?_)))))))))
    ·
     have p21 := cL h21
     refine zt rfl rfl h21 (zy (zf 0 rfl rfl) (zt rfl rfl h21 (zy (zl rfl) (zt rfl rfl h21 (zy (zf 2 rfl rfl) (zt rfl rfl h21 (zy (zn rfl rfl) (zt rfl rfl h21 (ze rfl (zc (right_c (c := r.client) (o := r.op)) rfl (fun x26 => ?_)))))))))))
     refine zy (zT (.bool _) rfl h21 rfl) (Qmb rfl rfl (TL_split 28 rfl (fun h28 => ?_) (fun h28 => ?_)))
     ·
      have p28 := cL h28
      refine zt rfl rfl h28 (zy (zf 6 rfl rfl) (zt rfl rfl h28 (zy (zl rfl) (zt rfl rfl h28 (zy (zL rfl Tryz.underlying33) (zt rfl rfl h28 (zy (Qt_leq rfl rfl) (zy (zT (.bool _) rfl h28 rfl) (Qab rfl rfl (TX (zQ ?_)))))))))))
      exact zX () [_] Tryz.results150 ⟨rfl, trivial⟩ (congrArg Value.bool (by first | (unfold formedQ; simp only [ReqV.abs]; simp_all; done) | (unfold formedQ; simp only [ReqV.abs]; simp_all; omega) | (symm; unfold formedQ; exact decide_eq_false (by simp only [ReqV.abs]; rintro ⟨⟨h1, h2⟩, -⟩; omega)) | (symm; unfold formedQ; exact decide_eq_false (by simp only [ReqV.abs]; rintro ⟨-, ⟨h1, h2⟩, -⟩; omega)))) SB
     have p28 := cL h28
     refine zp rfl rfl h28 rfl (zp rfl rfl h28 rfl (zp rfl rfl h28 rfl (zp rfl rfl h28 rfl (zy (zF (.bool _) rfl h28 rfl) (Qab rfl rfl (TX (zQ ?_)))))))
     exact zX () [_] Tryz.results150 ⟨rfl, trivial⟩ (congrArg Value.bool (by first | (unfold formedQ; simp only [ReqV.abs]; simp_all; done) | (unfold formedQ; simp only [ReqV.abs]; simp_all; omega) | (symm; unfold formedQ; exact decide_eq_false (by simp only [ReqV.abs]; rintro ⟨⟨h1, h2⟩, -⟩; omega)) | (symm; unfold formedQ; exact decide_eq_false (by simp only [ReqV.abs]; rintro ⟨-, ⟨h1, h2⟩, -⟩; omega)))) SB
    have p21 := cL h21
    refine zp rfl rfl h21 rfl (zp rfl rfl h21 rfl (zp rfl rfl h21 rfl (zp rfl rfl h21 rfl (zp rfl rfl h21 rfl (zy (zF (.bool _) rfl h21 rfl) (Qmb rfl rfl (zo (zo (zo (zo (zy (zF (.bool _) rfl rfl rfl) (Qab rfl rfl (TX (zQ ?_))))))))))))))
    exact zX () [_] Tryz.results150 ⟨rfl, trivial⟩ (congrArg Value.bool (by first | (unfold formedQ; simp only [ReqV.abs]; simp_all; done) | (unfold formedQ; simp only [ReqV.abs]; simp_all; omega) | (symm; unfold formedQ; exact decide_eq_false (by simp only [ReqV.abs]; rintro ⟨⟨h1, h2⟩, -⟩; omega)) | (symm; unfold formedQ; exact decide_eq_false (by simp only [ReqV.abs]; rintro ⟨-, ⟨h1, h2⟩, -⟩; omega)))) SB
   have p16 := cL h16
   refine zp rfl rfl h16 rfl (zp rfl rfl h16 rfl (zp rfl rfl h16 rfl (zy (zF (.bool _) rfl h16 rfl) (Qmb rfl rfl (zo (zo (zo (zo (zo (zy (zF (.bool _) rfl rfl rfl) (Qmb rfl rfl (zo (zo (zo (zo (zy (zF (.bool _) rfl rfl rfl) (Qab rfl rfl ?_)))))))))))))))))
   refine TX (zQ ?_)
   exact zX () [_] Tryz.results150 ⟨rfl, trivial⟩ (congrArg Value.bool (by first | (unfold formedQ; simp only [ReqV.abs]; simp_all; done) | (unfold formedQ; simp only [ReqV.abs]; simp_all; omega) | (symm; unfold formedQ; exact decide_eq_false (by simp only [ReqV.abs]; rintro ⟨⟨h1, h2⟩, -⟩; omega)) | (symm; unfold formedQ; exact decide_eq_false (by simp only [ReqV.abs]; rintro ⟨-, ⟨h1, h2⟩, -⟩; omega)))) SB
  have p11 := cL h11
  refine zp rfl rfl h11 rfl (zp rfl rfl h11 rfl (zp rfl rfl h11 rfl (zy (zF (.bool _) rfl h11 rfl) (Qmb rfl rfl (zo (zo (zo (zy (zF (.bool _) rfl rfl rfl) (Qmb rfl rfl (zo (zo (zo (zo (zo (zy (zF (.bool _) rfl rfl rfl) (Qmb rfl rfl (zo ?_)))))))))))))))))
  refine zo (zo (zo (zy (zF (.bool _) rfl rfl rfl) (Qab rfl rfl (TX (zQ ?_))))))
  exact zX () [_] Tryz.results150 ⟨rfl, trivial⟩ (congrArg Value.bool (by first | (unfold formedQ; simp only [ReqV.abs]; simp_all; done) | (unfold formedQ; simp only [ReqV.abs]; simp_all; omega) | (symm; unfold formedQ; exact decide_eq_false (by simp only [ReqV.abs]; rintro ⟨⟨h1, h2⟩, -⟩; omega)) | (symm; unfold formedQ; exact decide_eq_false (by simp only [ReqV.abs]; rintro ⟨-, ⟨h1, h2⟩, -⟩; omega)))) SB
 have p6 := cL h6
 refine zp rfl rfl h6 rfl (zp rfl rfl h6 rfl (zp rfl rfl h6 rfl (zy (zF (.bool _) rfl h6 rfl) (Qmb rfl rfl (zo (zo (zo (zy (zF (.bool _) rfl rfl rfl) (Qmb rfl rfl (zo (zo (zo (zy (zF (.bool _) rfl rfl rfl) (Qmb rfl rfl (zo (zo (zo ?_)))))))))))))))))
 refine zo (zo (zy (zF (.bool _) rfl rfl rfl) (Qmb rfl rfl (zo (zo (zo (zo (zy (zF (.bool _) rfl rfl rfl) (Qab rfl rfl (TX (zQ ?_)))))))))))
 exact zX () [_] Tryz.results150 ⟨rfl, trivial⟩ (congrArg Value.bool (by first | (unfold formedQ; simp only [ReqV.abs]; simp_all; done) | (unfold formedQ; simp only [ReqV.abs]; simp_all; omega) | (symm; unfold formedQ; exact decide_eq_false (by simp only [ReqV.abs]; rintro ⟨⟨h1, h2⟩, -⟩; omega)) | (symm; unfold formedQ; exact decide_eq_false (by simp only [ReqV.abs]; rintro ⟨-, ⟨h1, h2⟩, -⟩; omega)))) SB
theorem textQ_c {w0 : World} {H : List SA} {r : ReqV} (ha : Sig64 r.op.a) (hb : Sig64 r.op.b) :
 CT Tryz.prog w0 (H) 152 [.agg r.cells] (α := AC) (fun y => .slice y.a (textQ r.abs).length y.c) (fun y => row (.slice y.a (textQ r.abs).length y.c) 5 1 (bytesV (textQ r.abs)) :: H) := by
 refine CT_intro Tryz.func152 rfl Tryz.ntmps152 rfl (T2 (ze rfl (Ef_boxN rfl (fun b1 => ?_))))
 refine Qas rfl rfl (TX (zS (T2 (zy (zn rfl rfl) (ze rfl (zc (formedQ_c (r := r)) rfl (fun x7 => ?_)))))))
 refine zy (Qt_not rfl) (TX (zC rfl (fun h8 => ?_) (fun h8 => ?_)))
 ·
  have p8 := cL h8
  have hq : textQ r.abs = [] := if_pos (by simpa using h8)
  refine T2 (Qas rfl rfl (TX (zQ (zr ?_))))
  rw [hq]
  exact zX ⟨none, 0⟩ [_] Tryz.results152 ⟨rfl, trivial⟩ rfl (fun w hw => (SB w hw : St w0 H w).addNilB 5)
 have p8 := cL h8
 have hq8 : ¬ formedQ r.abs = false := by simpa using h8
 refine S4 (Qas rfl rfl (TX (zS (T2 (zy (zf 0 rfl rfl) (zy (zl rfl) (zy (zf 1 rfl rfl) (zy (zl rfl) (zy (zf 2 rfl rfl) (zy (zf 2 rfl rfl) ?_))))))))))
 refine zy (zl rfl) (zy (zf 2 rfl rfl) (zy (zf 3 rfl rfl) (zy (zl rfl) (zy (Qt_build_arr #[(.int .i64 _), (.int .i64 _), (.int .i64 _), (.int .i64 _)] Tryz.underlying272 rfl rfl rfl) (Qmi rfl rfl (TX (zB (T_unroll (TU_round (T2 (zy (Qt_lss rfl rfl) (TX (zS ?_)))))))))))))
 refine T_cond_true rfl (by first | rfl | decide) (zk (zx (zS (zB (T2 (zy (Qt_index (_) rfl rfl Tryz.underlying272 (by omega) (by omega) (rfl)) (Qai rfl rfl (TX (zR (Qms rfl rfl (Qmi rfl rfl (zy (Qt_conv rfl rfl Tryz.underlying121) (ze rfl (zc (putFixed_c (a := none) (l := []) (c := 0) (x := (IntKind.u64.wrap r.client)) (n := 1) (hr := RdB.nil') (by first | omega | (simp; done)) (u64_nonneg _)) rfl (fun x26 => ?_)))))))))))))))
 obtain ⟨l0, hl0⟩ : ∃ l : List UInt8, l = putFixed [] (IntKind.u64.wrap r.client) 1 := ⟨_, rfl⟩
 rw [← hl0]
 have hn0 : l0.length = 1 := by have h := putFixed1 [] (IntKind.u64.wrap r.client); rw [hl0]; first | exact h | omega
 refine Qas rfl rfl (zz (X_block (zx (zR (zy (zj rfl rfl) (Qmi rfl rfl (zz (X_again (TU_round (T2 (zy (Qt_lss rfl rfl) (TX (zS (T_cond_true rfl (by first | rfl | decide) (zk (zx (zS (zB (T2 ?_)))))))))))))))))))
 refine zy (Qt_index (_) rfl rfl Tryz.underlying272 (by omega) (by omega) (rfl)) (Qai rfl rfl (TX (zR (Qms rfl rfl (Qmi rfl rfl (zy (Qt_conv rfl rfl Tryz.underlying121) (ze rfl (zc (putFixed_c (l := l0) (x := (IntKind.u64.wrap r.seq)) (n := 1) (by first | omega | (simp; done)) (u64_nonneg _)) rfl (fun x26 => ?_)))))))))
 obtain ⟨l1, hl1⟩ : ∃ l : List UInt8, l = putFixed l0 (IntKind.u64.wrap r.seq) 1 := ⟨_, rfl⟩
 rw [← hl1]
 have hn1 : l1.length = 2 := by have h := putFixed1 l0 (IntKind.u64.wrap r.seq); rw [hl1]; first | exact h | omega
 refine Qas rfl rfl (zz (X_block (zx (zR (zy (zj rfl rfl) (Qmi rfl rfl (zz (X_again (TU_round (T2 (zy (Qt_lss rfl rfl) (TX (zS (T_cond_true rfl (by first | rfl | decide) (zk (zx (zS (zB (T2 ?_)))))))))))))))))))
 refine zy (Qt_index (_) rfl rfl Tryz.underlying272 (by omega) (by omega) (rfl)) (Qai rfl rfl (TX (zR (Qms rfl rfl (Qmi rfl rfl (zy (Qt_conv rfl rfl Tryz.underlying121) (ze rfl (zc (putFixed_c (l := l1) (x := (IntKind.u64.wrap r.op.kind)) (n := 1) (by first | omega | (simp; done)) (u64_nonneg _)) rfl (fun x26 => ?_)))))))))
 obtain ⟨l2, hl2⟩ : ∃ l : List UInt8, l = putFixed l1 (IntKind.u64.wrap r.op.kind) 1 := ⟨_, rfl⟩
 rw [← hl2]
 have hn2 : l2.length = 3 := by have h := putFixed1 l1 (IntKind.u64.wrap r.op.kind); rw [hl2]; first | exact h | omega
 refine Qas rfl rfl (zz (X_block (zx (zR (zy (zj rfl rfl) (Qmi rfl rfl (zz (X_again (TU_round (T2 (zy (Qt_lss rfl rfl) (TX (zS (T_cond_true rfl (by first | rfl | decide) (zk (zx (zS (zB (T2 ?_)))))))))))))))))))
 refine zy (Qt_index (_) rfl rfl Tryz.underlying272 (by omega) (by omega) (rfl)) (Qai rfl rfl (TX (zR (Qms rfl rfl (Qmi rfl rfl (zy (Qt_conv rfl rfl Tryz.underlying121) (ze rfl (zc (putFixed_c (l := l2) (x := (IntKind.u64.wrap r.op.key)) (n := 1) (by first | omega | (simp; done)) (u64_nonneg _)) rfl (fun x26 => ?_)))))))))
 obtain ⟨l3, hl3⟩ : ∃ l : List UInt8, l = putFixed l2 (IntKind.u64.wrap r.op.key) 1 := ⟨_, rfl⟩
 rw [← hl3]
 have hn3 : l3.length = 4 := by have h := putFixed1 l2 (IntKind.u64.wrap r.op.key); rw [hl3]; first | exact h | omega
 refine Qas rfl rfl (zz (X_block (zx (zR (zy (zj rfl rfl) (Qmi rfl rfl (zz (X_again (TU_round (T2 (zy (Qt_lss rfl rfl) (TX (zS (T_cond_false rfl (by first | rfl | decide) (zY (zG (X_again_exit (zE (zx (zS ?_))))))))))))))))))))
 refine zD (blk b1 (.cells r.cells 200 (0, 0)) :: H) [(0, true), (1, true), (2, true), (3, true), (5, true), (6, true), (7, true), (4, false), (8, false), (9, true)] SB (fun hns0 => ?_)
 refine zd hns0 rfl (zm (.slice _ _ _) rfl) rfl (zd hns0 rfl (zf 2 rfl rfl) rfl (zd hns0 rfl (zf 4 rfl rfl) rfl (zd hns0 rfl (zl rfl) rfl (zd hns0 rfl (zf 2 rfl rfl) rfl (zd hns0 rfl (zf 5 rfl rfl) rfl (zd hns0 rfl (zl rfl) rfl (DL_e rfl rfl (zc (putFolded_c (l := l3) (x := r.op.a) (by omega) ha) rfl (fun x32 => ⟨SB, ?_⟩)))))))))
 refine DL_e rfl rfl (zc (putFolded_c (l := l3 ++ packed (foldN r.op.a)) (x := r.op.b) (by have := packed_length_le (foldN r.op.a) (foldN_lt ha); rw [List.length_append]; omega) hb) rfl (fun x36 => ⟨SB, ?_⟩))
 refine zd hns0 rfl (za (.slice _ _ _) rfl) rfl (DL_nil (zx (zQ ?_)))
 have hq : textQ r.abs = l3 ++ packed (foldN r.op.a) ++ packed (foldN r.op.b) := by unfold textQ; rw [if_neg hq8, hl3, hl2, hl1, hl0]; rfl
 rw [hq]
 exact zX ⟨x36.a, x36.c⟩ [_] Tryz.results152 ⟨rfl, trivial⟩ rfl SB
end
section
open Go.RowKit Go.Sx
set_option maxRecDepth 100000
attribute [local irreducible] sha putFixed
set_option maxHeartbeats 1000000 in
theorem textG_c {w0 : World} {H : List SA} {a : Option Addr} {l : List UInt8} {c : Nat} [hr : RdB w0 H (.slice a l.length c) l] (hl : l.length ≤ 4294967296) :
 CT Tryz.prog w0 (H) 176 [.slice a l.length c] (α := ReqV) (fun y => .tuple #[.agg y.cells, .int .i64 (textG l).1]) (fun y => pu (y.abs = (textG l).2 ∧ y.sig = ⟨none, 0, []⟩) :: H) := by
 refine CT_intro Tryz.func176 rfl Tryz.ntmps176 rfl ?_
 refine T2 ?_
 refine ze rfl (Ef_allocN (fun b2 => ?_))
 refine Qai rfl rfl (T4 (Qms rfl rfl ?_))
 refine ze rfl (zc (rnew_c hl) rfl (fun x15 => ?_))
 refine TL_pure (fun h15 => ?_)
 refine zq (za (.pointer _) rfl) rfl (T4 ?_)
 refine ze rfl (Ef_allocN (fun b5 => ?_))
 refine TX (zS (T2 ?_))
 refine zq (zf 0 rfl rfl) rfl (zq (zf 1 rfl rfl) rfl (zq (zf 2 rfl rfl) rfl (zq (zf 2 rfl rfl) rfl (zq (zf 2 rfl rfl) rfl (zq (zf 3 rfl rfl) rfl ?_)))))
 refine zq (Qt_build_arr #[(.pointer _), (.pointer _), (.pointer _), (.pointer _)] Tryz.underlying270 rfl rfl rfl) rfl (Qmi rfl rfl (TX (zB ?_)))
 refine T_unroll (TU_round ?_)
 refine T2 (zq (Qt_lss rfl rfl) rfl (TX (zS ?_)))
 refine T_cond_true rfl (by first | rfl | decide) (zk (zx (zS (zB (T2 ?_)))))
 refine zq (Qt_index (_) rfl rfl Tryz.underlying270 (by omega) (by omega) (rfl)) rfl (zq (za (.pointer _) rfl) rfl (T4 (zq (zm (.pointer _) rfl) rfl (TL_frontB x15.1 ?_))))
 refine ze rfl (zc (fixed1_c (b := x15.2) (k := 0) (by omega) (by rw [h15]; omega)) rfl (fun x28 => ?_))
 refine TL_pure (fun h28 => ?_)
 obtain ⟨u0, q0, e0⟩ := x28
 simp only [Rd1] at h28
 have hb0 := u0.toNat_lt
 refine zq (zm (.tuple _) rfl) rfl (zq (Qt_extract rfl) rfl (zq (Qt_extract rfl) rfl (zq (za (.int .u64 _) rfl) rfl (Qai rfl rfl (TX (zS (T2 ?_)))))))
 refine Qmi rfl rfl (zq (Qt_neq rfl rfl) rfl (TX (zC rfl (fun h32 => ?_) (fun h32 => ?_))))
 ·
  have p32 := h32
  try simp only [dp] at p32
  have hs0 : x15.2.l.length ≤ 0 ∧ e0 = 1 := by
   rcases h28 with ⟨-, -, -, h4⟩ | ⟨h1, -, -, h4⟩
   · (try simp only at h32); omega
   · exact ⟨h1, h4⟩
  obtain ⟨hs0, rfl⟩ := hs0
  refine T2 (zq (Qt_build [] rfl (by kernel_rfl)) rfl (Qmi rfl rfl ?_))
  refine zN (zs rfl rfl (?_))
  refine Qai rfl rfl (TX (zQ (zr (zb (zr ?_)))))
  refine X_again_ret (zb (zr ?_))
  have e : textG l = (1, .zero) := if_pos (by rw [← h15]; omega)
  rw [e]
  exact zX ReqV.zero [_, _] Tryz.results176 ⟨⟨_, rfl, res_cellN rfl⟩, rfl, trivial⟩ rfl (fun w hw => (SB w hw : St w0 H w).addPure ⟨rfl, rfl⟩)
 have p32 := h32
 try simp only [dp] at p32
 obtain ⟨hk0, hv0, ha0⟩ : 0 < x15.2.l.length ∧ u0 = x15.2.l.getD 0 0 ∧ q0 = 0 + 1 := by
  rcases h28 with ⟨h1, h2, h3, -⟩ | ⟨-, -, -, h4⟩
  · exact ⟨h1, h2, h3⟩
  · (try simp only at h32); omega
 subst ha0
 refine zk (zx (zR ?_))
 refine zq (zm (.pointer _) rfl) rfl (zq (zm (.int .u64 _) rfl) rfl (zq (Qt_conv_i64 rfl rfl Tryz.underlying3 (by dsimp only; omega) (by dsimp only; omega)) rfl (zq (Qt_nilCheck rfl) rfl ?_)))
 refine zN (Ef_store1 (.int .i64 _) rfl rfl (?_))
 refine zz (X_block (zx (zR ?_)))
 refine zq (Qt_add rfl rfl (by omega) (by omega)) rfl (Qmi rfl rfl (zz (X_again (TU_round ?_))))
 refine T2 (zq (Qt_lss rfl rfl) rfl (TX (zS ?_)))
 refine T_cond_true rfl (by first | rfl | decide) (zk (zx (zS (zB (T2 ?_)))))
 refine zq (Qt_index (_) rfl rfl Tryz.underlying270 (by omega) (by omega) (rfl)) rfl (zq (za (.pointer _) rfl) rfl (T4 (zq (zm (.pointer _) rfl) rfl (TL_frontB x15.1 ?_))))
 refine ze rfl (zc (fixed1_c (b := x15.2) (k := 0 + 1) (by omega) (by rw [h15]; omega)) rfl (fun x28 => ?_))
 refine TL_pure (fun h28 => ?_)
 obtain ⟨u1, q1, e1⟩ := x28
 simp only [Rd1] at h28
 have hb1 := u1.toNat_lt
 refine zq (zm (.tuple _) rfl) rfl (zq (Qt_extract rfl) rfl (zq (Qt_extract rfl) rfl (zq (za (.int .u64 _) rfl) rfl (Qai rfl rfl (TX (zS (T2 ?_)))))))
 refine Qmi rfl rfl (zq (Qt_neq rfl rfl) rfl (TX (zC rfl (fun h32 => ?_) (fun h32 => ?_))))
 ·
  have p32 := h32
  try simp only [dp] at p32
  have hs1 : x15.2.l.length ≤ 1 ∧ e1 = 1 := by
   rcases h28 with ⟨-, -, -, h4⟩ | ⟨h1, -, -, h4⟩
   · (try simp only at h32); omega
   · exact ⟨h1, h4⟩
  obtain ⟨hs1, rfl⟩ := hs1
  refine T2 (zq (Qt_build [] rfl (by kernel_rfl)) rfl (Qmi rfl rfl ?_))
  refine zN (zs rfl rfl (?_))
  refine Qai rfl rfl (TX (zQ (zr (zb (zr ?_)))))
  refine X_again_ret (zb (zr ?_))
  have e : textG l = (1, .zero) := if_pos (by rw [← h15]; omega)
  rw [e]
  exact zX ReqV.zero [_, _] Tryz.results176 ⟨⟨_, rfl, res_cellN rfl⟩, rfl, trivial⟩ rfl (fun w hw => (SB w hw : St w0 H w).addPure ⟨rfl, rfl⟩)
 have p32 := h32
 try simp only [dp] at p32
 obtain ⟨hk1, hv1, ha1⟩ : 1 < x15.2.l.length ∧ u1 = x15.2.l.getD 1 0 ∧ q1 = 1 + 1 := by
  rcases h28 with ⟨h1, h2, h3, -⟩ | ⟨-, -, -, h4⟩
  · exact ⟨h1, h2, h3⟩
  · (try simp only at h32); omega
 subst ha1
 refine zk (zx (zR ?_))
 refine zq (zm (.pointer _) rfl) rfl (zq (zm (.int .u64 _) rfl) rfl (zq (Qt_conv_i64 rfl rfl Tryz.underlying3 (by dsimp only; omega) (by dsimp only; omega)) rfl (zq (Qt_nilCheck rfl) rfl ?_)))
 refine zN (Ef_store1 (.int .i64 _) rfl rfl (?_))
 refine zz (X_block (zx (zR ?_)))
 refine zq (Qt_add rfl rfl (by omega) (by omega)) rfl (Qmi rfl rfl (zz (X_again (TU_round ?_))))
 refine T2 (zq (Qt_lss rfl rfl) rfl (TX (zS ?_)))
 refine T_cond_true rfl (by first | rfl | decide) (zk (zx (zS (zB (T2 ?_)))))
 refine zq (Qt_index (_) rfl rfl Tryz.underlying270 (by omega) (by omega) (rfl)) rfl (zq (za (.pointer _) rfl) rfl (T4 (zq (zm (.pointer _) rfl) rfl (TL_frontB x15.1 ?_))))
 refine ze rfl (zc (fixed1_c (b := x15.2) (k := 1 + 1) (by omega) (by rw [h15]; omega)) rfl (fun x28 => ?_))
 refine TL_pure (fun h28 => ?_)
 obtain ⟨u2, q2, e2⟩ := x28
 simp only [Rd1] at h28
 have hb2 := u2.toNat_lt
 refine zq (zm (.tuple _) rfl) rfl (zq (Qt_extract rfl) rfl (zq (Qt_extract rfl) rfl (zq (za (.int .u64 _) rfl) rfl (Qai rfl rfl (TX (zS (T2 ?_)))))))
 refine Qmi rfl rfl (zq (Qt_neq rfl rfl) rfl (TX (zC rfl (fun h32 => ?_) (fun h32 => ?_))))
 ·
  have p32 := h32
  try simp only [dp] at p32
  have hs2 : x15.2.l.length ≤ 2 ∧ e2 = 1 := by
   rcases h28 with ⟨-, -, -, h4⟩ | ⟨h1, -, -, h4⟩
   · (try simp only at h32); omega
   · exact ⟨h1, h4⟩
  obtain ⟨hs2, rfl⟩ := hs2
  refine T2 (zq (Qt_build [] rfl (by kernel_rfl)) rfl (Qmi rfl rfl ?_))
  refine zN (zs rfl rfl (?_))
  refine Qai rfl rfl (TX (zQ (zr (zb (zr ?_)))))
  refine X_again_ret (zb (zr ?_))
  have e : textG l = (1, .zero) := if_pos (by rw [← h15]; omega)
  rw [e]
  exact zX ReqV.zero [_, _] Tryz.results176 ⟨⟨_, rfl, res_cellN rfl⟩, rfl, trivial⟩ rfl (fun w hw => (SB w hw : St w0 H w).addPure ⟨rfl, rfl⟩)
 have p32 := h32
 try simp only [dp] at p32
 obtain ⟨hk2, hv2, ha2⟩ : 2 < x15.2.l.length ∧ u2 = x15.2.l.getD 2 0 ∧ q2 = 2 + 1 := by
  rcases h28 with ⟨h1, h2, h3, -⟩ | ⟨-, -, -, h4⟩
  · exact ⟨h1, h2, h3⟩
  · (try simp only at h32); omega
 subst ha2
 refine zk (zx (zR ?_))
 refine zq (zm (.pointer _) rfl) rfl (zq (zm (.int .u64 _) rfl) rfl (zq (Qt_conv_i64 rfl rfl Tryz.underlying3 (by dsimp only; omega) (by dsimp only; omega)) rfl (zq (Qt_nilCheck rfl) rfl ?_)))
 refine zN (Ef_store1 (.int .i64 _) rfl rfl (?_))
 refine zz (X_block (zx (zR ?_)))
 refine zq (Qt_add rfl rfl (by omega) (by omega)) rfl (Qmi rfl rfl (zz (X_again (TU_round ?_))))
 refine T2 (zq (Qt_lss rfl rfl) rfl (TX (zS ?_)))
 refine T_cond_true rfl (by first | rfl | decide) (zk (zx (zS (zB (T2 ?_)))))
 refine zq (Qt_index (_) rfl rfl Tryz.underlying270 (by omega) (by omega) (rfl)) rfl (zq (za (.pointer _) rfl) rfl (T4 (zq (zm (.pointer _) rfl) rfl (TL_frontB x15.1 ?_))))
 refine ze rfl (zc (fixed1_c (b := x15.2) (k := 2 + 1) (by omega) (by rw [h15]; omega)) rfl (fun x28 => ?_))
 refine TL_pure (fun h28 => ?_)
 obtain ⟨u3, q3, e3⟩ := x28
 simp only [Rd1] at h28
 have hb3 := u3.toNat_lt
 refine zq (zm (.tuple _) rfl) rfl (zq (Qt_extract rfl) rfl (zq (Qt_extract rfl) rfl (zq (za (.int .u64 _) rfl) rfl (Qai rfl rfl (TX (zS (T2 ?_)))))))
 refine Qmi rfl rfl (zq (Qt_neq rfl rfl) rfl (TX (zC rfl (fun h32 => ?_) (fun h32 => ?_))))
 ·
  have p32 := h32
  try simp only [dp] at p32
  have hs3 : x15.2.l.length ≤ 3 ∧ e3 = 1 := by
   rcases h28 with ⟨-, -, -, h4⟩ | ⟨h1, -, -, h4⟩
   · (try simp only at h32); omega
   · exact ⟨h1, h4⟩
  obtain ⟨hs3, rfl⟩ := hs3
  refine T2 (zq (Qt_build [] rfl (by kernel_rfl)) rfl (Qmi rfl rfl ?_))
  refine zN (zs rfl rfl (?_))
  refine Qai rfl rfl (TX (zQ (zr (zb (zr ?_)))))
  refine X_again_ret (zb (zr ?_))
  have e : textG l = (1, .zero) := if_pos (by rw [← h15]; omega)
  rw [e]
  exact zX ReqV.zero [_, _] Tryz.results176 ⟨⟨_, rfl, res_cellN rfl⟩, rfl, trivial⟩ rfl (fun w hw => (SB w hw : St w0 H w).addPure ⟨rfl, rfl⟩)
 have p32 := h32
 try simp only [dp] at p32
 obtain ⟨hk3, hv3, ha3⟩ : 3 < x15.2.l.length ∧ u3 = x15.2.l.getD 3 0 ∧ q3 = 3 + 1 := by
  rcases h28 with ⟨h1, h2, h3, -⟩ | ⟨-, -, -, h4⟩
  · exact ⟨h1, h2, h3⟩
  · (try simp only at h32); omega
 subst ha3
 refine zk (zx (zR ?_))
 refine zq (zm (.pointer _) rfl) rfl (zq (zm (.int .u64 _) rfl) rfl (zq (Qt_conv_i64 rfl rfl Tryz.underlying3 (by dsimp only; omega) (by dsimp only; omega)) rfl (zq (Qt_nilCheck rfl) rfl ?_)))
 refine zN (Ef_store1 (.int .i64 _) rfl rfl (?_))
 refine zz (X_block (zx (zR ?_)))
 refine zq (Qt_add rfl rfl (by omega) (by omega)) rfl (Qmi rfl rfl (zz (X_again (TU_round ?_))))
 refine T2 (zq (Qt_lss rfl rfl) rfl (TX (zS ?_)))
 refine T_cond_false rfl (by first | rfl | decide) (zY (zG ?_))
 refine X_again_exit (zE (zx (zS (T2 ?_))))
 refine zq (zf 2 rfl rfl) rfl (zq (zf 4 rfl rfl) rfl (zq (zf 2 rfl rfl) rfl (zq (zf 5 rfl rfl) rfl (zq (Qt_build_arr #[(.pointer _), (.pointer _)] Tryz.underlying287 rfl rfl rfl) rfl (Qmi rfl rfl ?_)))))
 refine TX (zB ?_)
 refine T_unroll (TU_round ?_)
 refine T2 (zq (Qt_lss rfl rfl) rfl (TX (zS ?_)))
 refine T_cond_true rfl (by first | rfl | decide) (zk (zx (zS (zB (T2 ?_)))))
 refine zq (Qt_index (_) rfl rfl Tryz.underlying287 (by omega) (by omega) (rfl)) rfl (zq (za (.pointer _) rfl) rfl (T4 (zq (zm (.pointer _) rfl) rfl (TL_frontB x15.1 ?_))))
 refine ze rfl (zc (folded_c (b := x15.2) (k := 3 + 1) (by omega) (by rw [h15]; omega)) rfl (fun x50 => ?_))
 refine zq (zm (.tuple _) rfl) rfl (zq (Qt_extract rfl) rfl (zq (Qt_extract rfl) rfl (Qai rfl rfl (Qai rfl rfl (TX (zS (T2 ?_)))))))
 refine Qmi rfl rfl (zq (Qt_neq rfl rfl) rfl (TX (zC rfl (fun h54 => ?_) (fun h54 => ?_))))
 ·
  have p54 := h54
  try simp only [dp] at p54
  refine T2 (zq (Qt_build [] rfl (by kernel_rfl)) rfl (Qmi rfl rfl ?_))
  refine zN (zs rfl rfl (?_))
  refine Qai rfl rfl (TX (zQ (zr (zb (zr ?_)))))
  refine X_again_ret (zb (zr ?_))
  have e : textG l = ((rdPacked (x15.2.l.drop (3 + 1))).1, .zero) := by rw [← h15]; unfold textG; rw [if_neg (by omega), if_pos p54]
  rw [e]
  exact zX ReqV.zero [_, _] Tryz.results176 ⟨⟨_, rfl, res_cellN rfl⟩, rfl, trivial⟩ rfl (fun w hw => (SB w hw : St w0 H w).addPure ⟨rfl, rfl⟩)
 have p54 := h54
 try simp only [dp] at p54
 have z1 : (rdPacked (x15.2.l.drop (3 + 1))).1 = 0 := by omega
 rw [if_pos z1]
 refine zk (zx (zR ?_))
 refine zq (zm (.pointer _) rfl) rfl (Qmi rfl rfl (zq (Qt_nilCheck rfl) rfl ?_))
 refine zN (Ef_store1 (.int .i64 _) rfl rfl (?_))
 refine zz (X_block (zx (zR ?_)))
 refine zq (Qt_add rfl rfl (by omega) (by omega)) rfl (Qmi rfl rfl (zz (X_again (TU_round ?_))))
 refine T2 (zq (Qt_lss rfl rfl) rfl (TX (zS ?_)))
 refine T_cond_true rfl (by first | rfl | decide) (zk (zx (zS (zB (T2 ?_)))))
 refine zq (Qt_index (_) rfl rfl Tryz.underlying287 (by omega) (by omega) (rfl)) rfl (zq (za (.pointer _) rfl) rfl (T4 (zq (zm (.pointer _) rfl) rfl (TL_frontB x15.1 ?_))))
 refine ze rfl (zc (folded_c (b := x15.2) (k := (3 + 1 + (rdPacked (x15.2.l.drop (3 + 1))).2.2)) (by have := (rdPacked_bound (x15.2.l.drop (3 + 1))).2.1; rw [List.length_drop] at this; omega) (by rw [h15]; omega)) rfl (fun x50 => ?_))
 refine zq (zm (.tuple _) rfl) rfl (zq (Qt_extract rfl) rfl (zq (Qt_extract rfl) rfl (Qai rfl rfl (Qai rfl rfl (TX (zS (T2 ?_)))))))
 refine Qmi rfl rfl (zq (Qt_neq rfl rfl) rfl (TX (zC rfl (fun h54 => ?_) (fun h54 => ?_))))
 ·
  have p54 := h54
  try simp only [dp] at p54
  refine T2 (zq (Qt_build [] rfl (by kernel_rfl)) rfl (Qmi rfl rfl ?_))
  refine zN (zs rfl rfl (?_))
  refine Qai rfl rfl (TX (zQ (zr (zb (zr ?_)))))
  refine X_again_ret (zb (zr ?_))
  have e : textG l = ((rdPacked (x15.2.l.drop (3 + 1 + (rdPacked (x15.2.l.drop (3 + 1))).2.2))).1, .zero) := by rw [← h15]; unfold textG; rw [if_neg (by omega), if_neg (by simpa using z1), if_pos p54]
  rw [e]
  exact zX ReqV.zero [_, _] Tryz.results176 ⟨⟨_, rfl, res_cellN rfl⟩, rfl, trivial⟩ rfl (fun w hw => (SB w hw : St w0 H w).addPure ⟨rfl, rfl⟩)
 have p54 := h54
 try simp only [dp] at p54
 have z2 : (rdPacked (x15.2.l.drop (3 + 1 + (rdPacked (x15.2.l.drop (3 + 1))).2.2))).1 = 0 := by omega
 rw [if_pos z2]
 refine zk (zx (zR ?_))
 refine zq (zm (.pointer _) rfl) rfl (Qmi rfl rfl (zq (Qt_nilCheck rfl) rfl ?_))
 refine zN (Ef_store1 (.int .i64 _) rfl rfl (?_))
 refine zz (X_block (zx (zR ?_)))
 refine zq (Qt_add rfl rfl (by omega) (by omega)) rfl (Qmi rfl rfl (zz (X_again (TU_round ?_))))
 refine T2 (zq (Qt_lss rfl rfl) rfl (TX (zS ?_)))
 refine T_cond_false rfl (by first | rfl | decide) (zY (zG ?_))
 refine X_again_exit (zE (zx (zS ?_)))
 refine T_draw (blk b5 (.cells (ReqV.mk (u0.toNat : Int) (u1.toNat : Int) ⟨(u2.toNat : Int), (u3.toNat : Int), unfoldN (rdPacked (x15.2.l.drop (3 + 1))).2.1, unfoldN (rdPacked (x15.2.l.drop (3 + 1 + (rdPacked (x15.2.l.drop (3 + 1))).2.2))).2.1⟩ ⟨none, 0, []⟩).cells 200 (0, 0)) :: H) [(0, true), (1, true), (2, false), (3, false), (4, true)] (by kernel_rfl) (by kernel_rfl) rfl (by kernel_rfl) SB (fun hns0 => ?_)
 refine zd hns0 rfl (zn rfl rfl) rfl (zd hns0 rfl (zm (.pointer _) rfl) rfl ?_)
 refine DL_frontB x15.1 ?_
 refine DL_e rfl rfl (zc (done_c (b := x15.2) (k := (3 + 1 + (rdPacked (x15.2.l.drop (3 + 1))).2.2) + (rdPacked (x15.2.l.drop (3 + 1 + (rdPacked (x15.2.l.drop (3 + 1))).2.2))).2.2) (by have h1 := (rdPacked_bound (x15.2.l.drop (3 + 1))).2.1; have h2 := (rdPacked_bound (x15.2.l.drop (3 + 1 + (rdPacked (x15.2.l.drop (3 + 1))).2.2))).2.1; rw [List.length_drop] at h1 h2; omega) (by rw [h15]; omega)) rfl (fun x63 => ⟨SB, ?_⟩))
 refine DL_n rfl (zs rfl rfl (⟨SB, ?_⟩))
 refine zd hns0 rfl (za (.int .i64 _) rfl) rfl (DL_nil (zx (zQ ?_)))
 have e : textG l = ((if (3 + 1 + (rdPacked (x15.2.l.drop (3 + 1))).2.2) + (rdPacked (x15.2.l.drop (3 + 1 + (rdPacked (x15.2.l.drop (3 + 1))).2.2))).2.2 < x15.2.l.length then (2 : Int) else 0), (ReqV.mk (u0.toNat : Int) (u1.toNat : Int) ⟨(u2.toNat : Int), (u3.toNat : Int), unfoldN (rdPacked (x15.2.l.drop (3 + 1))).2.1, unfoldN (rdPacked (x15.2.l.drop (3 + 1 + (rdPacked (x15.2.l.drop (3 + 1))).2.2))).2.1⟩ ⟨none, 0, []⟩).abs) := by
  rw [← h15]; unfold textG; rw [if_neg (by omega), if_neg (by simpa using z1), if_neg (by simpa using z2), hv0, hv1, hv2, hv3]; rfl
 rw [e]
 exact zX (ReqV.mk (u0.toNat : Int) (u1.toNat : Int) ⟨(u2.toNat : Int), (u3.toNat : Int), unfoldN (rdPacked (x15.2.l.drop (3 + 1))).2.1, unfoldN (rdPacked (x15.2.l.drop (3 + 1 + (rdPacked (x15.2.l.drop (3 + 1))).2.2))).2.1⟩ ⟨none, 0, []⟩) [_, _] Tryz.results176 ⟨⟨_, rfl, res_cellN rfl⟩, rfl, trivial⟩ rfl (fun w hw => (SB w hw : St w0 H w).addPure ⟨rfl, rfl⟩)
set_option maxHeartbeats 1000000 in
theorem getQ_c {w0 : World} {H : List SA} {a : Option Addr} {l : List UInt8} {c : Nat} [hr : RdB w0 H (.slice a l.length c) l] (hl : l.length ≤ 4294967296) :
 CT Tryz.prog w0 (H) 148 [.slice a l.length c] (α := ReqV) (fun y => .tuple #[.agg y.cells, .int .i64 (getG l).1]) (fun y => pu (y.abs = (getG l).2) :: row (.slice y.sig.a (y.sig.l).length y.sig.c) 5 1 (bytesV (y.sig.l)) :: H) := by
 refine CT_intro Tryz.func148 rfl Tryz.ntmps148 rfl ?_
 refine T2 ?_
 refine ze rfl (Ef_allocN (fun b2 => ?_))
 refine Qai rfl rfl (T4 (Qms rfl rfl ?_))
 refine ze rfl (zc (rnew_c hl) rfl (fun x9 => ?_))
 refine TL_pure (fun h9 => ?_)
 have hlen := congrArg List.length h9
 refine zq (za (.pointer _) rfl) rfl (T4 (zq (zm (.pointer _) rfl) rfl (TL_frontB x9.1 ?_)))
 refine ze rfl (zc (text_c (b := x9.2) (k := 0) (m := 100) (by omega) (by rw [h9]; omega) (by decide)) rfl (fun x12 => ?_))
 rw [List.drop_zero]
 obtain ⟨hb1, hb2⟩ := rdText_bound x9.2.l 100
 refine zq (zm (.tuple _) rfl) rfl (zq (Qt_extract rfl) rfl (zq (Qt_extract rfl) rfl (Qas rfl rfl (Qai rfl rfl (TX (zS (T2 ?_)))))))
 refine Qmi rfl rfl (zq (Qt_neq rfl rfl) rfl (TX (zC rfl (fun h16 => ?_) (fun h16 => ?_))))
 ·
  have p16 := h16
  try simp only [dp] at p16
  refine T2 (zq (Qt_build [] rfl (by kernel_rfl)) rfl (Qmi rfl rfl ?_))
  refine zN (zs rfl rfl (?_))
  refine Qai rfl rfl (TX (zQ (zr ?_)))
  have e : getG l = ((rdText x9.2.l 100).1, .zero) := by
   rw [← h9]; unfold getG; rw [if_pos p16]
  rw [e]
  exact zX ReqV.zero [_, _] Tryz.results148 ⟨⟨_, rfl, res_cellN rfl⟩, rfl, trivial⟩ rfl (fun w hw => ((SB w hw : St w0 H w).addNilB 5).addPure rfl)
 have p16 := h16
 try simp only [dp] at p16
 refine S4 (Qms rfl rfl ?_)
 refine ze rfl (zc (textG_c (a := x12.a) (l := (rdText x9.2.l 100).2.1) (c := x12.c) (by omega)) rfl (fun x21 => ?_))
 refine TL_pure (fun h21 => ?_)
 obtain ⟨h21, h21s⟩ := h21
 have htsg := textG_sig (rdText x9.2.l 100).2.1
 refine zq (zm (.tuple _) rfl) rfl (zq (Qt_extract rfl) rfl (zq (Qt_extract rfl) rfl ?_))
 refine ze rfl (Ef_allocN (fun b7 => ?_))
 refine zN (zs rfl rfl (?_))
 refine Qai rfl rfl (TX (zS (T2 ?_)))
 refine Qmi rfl rfl (zq (Qt_neq rfl rfl) rfl (TX (zC rfl (fun h25 => ?_) (fun h25 => ?_))))
 ·
  have p25 := h25
  try simp only [dp] at p25
  refine T2 (zq (Qt_build [] rfl (by kernel_rfl)) rfl (Qmi rfl rfl ?_))
  refine zN (zs rfl rfl (?_))
  refine Qai rfl rfl (TX (zQ (zr ?_)))
  have e : getG l = ((textG (rdText x9.2.l 100).2.1).1, .zero) := by
   rw [← h9]; unfold getG; rw [if_neg (by omega), if_pos p25]
  rw [e]
  exact zX ReqV.zero [_, _] Tryz.results148 ⟨⟨_, rfl, res_cellN rfl⟩, rfl, trivial⟩ rfl (fun w hw => ((SB w hw : St w0 H w).addNilB 5).addPure rfl)
 have p25 := h25
 try simp only [dp] at p25
 refine zk (zx (zS (T2 ?_)))
 refine zq (zm (.pointer _) rfl) rfl (TL_frontB x9.1 ?_)
 refine ze rfl (zc (text_c (b := x9.2) (k := 0 + (rdText x9.2.l 100).2.2) (m := 1000) (by omega) (by rw [h9]; omega) (by decide)) rfl (fun x30 => ?_))
 rw [Nat.zero_add]
 obtain ⟨hb3, hb4⟩ := rdText_bound (x9.2.l.drop (rdText x9.2.l 100).2.2) 1000
 rw [List.length_drop] at hb3 hb4
 refine zq (zm (.tuple _) rfl) rfl (zq (Qt_extract rfl) rfl (zq (Qt_extract rfl) rfl (zq (zf 6 rfl rfl) rfl ?_)))
 refine zN (Ef_store1 (.slice _ _ _) rfl rfl (?_))
 refine Qai rfl rfl (T4 (Qmi rfl rfl (zq (Qt_neq rfl rfl) rfl (TX (zC rfl (fun h35 => ?_) (fun h35 => ?_))))))
 ·
  have p35 := h35
  try simp only [dp] at p35
  refine T2 (zq (Qt_build [] rfl (by kernel_rfl)) rfl (Qmi rfl rfl ?_))
  refine zN (zs rfl rfl (?_))
  refine Qai rfl rfl (TX (zQ (zr ?_)))
  have e : getG l = ((rdText (x9.2.l.drop (rdText x9.2.l 100).2.2) 1000).1, .zero) := by
   rw [← h9]; unfold getG; rw [if_neg (by omega), if_neg (by omega), if_pos p35]
  rw [e]
  exact zX ReqV.zero [_, _] Tryz.results148 ⟨⟨_, rfl, res_cellN rfl⟩, rfl, trivial⟩ rfl (fun w hw => ((SB w hw : St w0 H w).addNilB 5).addPure rfl)
 have p35 := h35
 try simp only [dp] at p35
 refine zk (zx (zS (zB (T2 ?_))))
 refine zq (zm (.pointer _) rfl) rfl (TL_frontB x9.1 ?_)
 refine ze rfl (zc (done_c (b := x9.2) (k := (rdText x9.2.l 100).2.2 + (rdText (x9.2.l.drop (rdText x9.2.l 100).2.2) 1000).2.2) (by omega) (by rw [h9]; omega)) rfl (fun x40 => ?_))
 refine zq (Qt_neq rfl rfl) rfl (Qab rfl rfl (TX (zC rfl (fun h38 => ?_) (fun h38 => ?_))))
 ·
  have p38 := h38
  try simp only [dp] at p38
  have hdn : (rdText x9.2.l 100).2.2 + (rdText (x9.2.l.drop (rdText x9.2.l 100).2.2) 1000).2.2 < x9.2.l.length := by by_cases hh : (rdText x9.2.l 100).2.2 + (rdText (x9.2.l.drop (rdText x9.2.l 100).2.2) 1000).2.2 < x9.2.l.length; exact hh; simp [hh] at h38
  refine T2 (zq (Qt_build [] rfl (by kernel_rfl)) rfl ?_)
  refine zN (zs rfl rfl (?_))
  refine Qai rfl rfl (TX (zQ (zb (zr ?_))))
  have e : getG l = (2, .zero) := by
   rw [← h9]; unfold getG; rw [if_neg (by omega), if_neg (by omega), if_neg (by omega), if_pos hdn]
  rw [e]
  exact zX ReqV.zero [_, _] Tryz.results148 ⟨⟨_, rfl, res_cellN rfl⟩, rfl, trivial⟩ rfl (fun w hw => ((SB w hw : St w0 H w).addNilB 5).addPure rfl)
 have p38 := h38
 try simp only [dp] at p38
 have hdn : ¬ (rdText x9.2.l 100).2.2 + (rdText (x9.2.l.drop (rdText x9.2.l 100).2.2) 1000).2.2 < x9.2.l.length := by intro hh; simp [hh] at h38
 refine T2 (zq (zn rfl rfl) rfl ?_)
 refine ze rfl (zc (formedQ_c (r := (ReqV.mk x21.client x21.seq x21.op ⟨x30.a, x30.c, (rdText (x9.2.l.drop (rdText x9.2.l 100).2.2) 1000).2.1⟩))) rfl (fun x45 => ?_))
 refine zq (Qt_not rfl) rfl (Qab rfl rfl (TX (zC rfl (fun h43 => ?_) (fun h43 => ?_))))
 ·
  have p43 := h43
  try simp only [dp] at p43
  refine T2 (zq (Qt_build [] rfl (by kernel_rfl)) rfl ?_)
  refine zN (zs rfl rfl (?_))
  refine Qai rfl rfl (TX (zQ (zb (zr ?_))))
  have e : getG l = (15, .zero) := by
   rw [← h9]; unfold getG; rw [if_neg (by omega), if_neg (by omega), if_neg (by omega), if_neg hdn, if_pos (by rw [← h21]; have h : (!(formedQ (ReqV.mk x21.client x21.seq x21.op ⟨x30.a, x30.c, (rdText (x9.2.l.drop (rdText x9.2.l 100).2.2) 1000).2.1⟩).abs)) = true := h43; exact (Bool.not_eq_true' _).mp h)]
  rw [e]
  exact zX ReqV.zero [_, _] Tryz.results148 ⟨⟨_, rfl, res_cellN rfl⟩, rfl, trivial⟩ rfl (fun w hw => ((SB w hw : St w0 H w).addNilB 5).addPure rfl)
 have p43 := h43
 try simp only [dp] at p43
 refine zk (X_block (zx (T2 ?_)))
 refine zq (zn rfl rfl) rfl ?_
 refine zN (zs rfl rfl (?_))
 refine Qai rfl rfl (TX (zQ ?_))
 have e : getG l = (0, { (textG (rdText x9.2.l 100).2.1).2 with sig := (rdText (x9.2.l.drop (rdText x9.2.l 100).2.2) 1000).2.1 }) := by
  rw [← h9]; unfold getG; rw [if_neg (by omega), if_neg (by omega), if_neg (by omega), if_neg hdn, if_neg (by rw [← h21]; intro hh; have h : (!(formedQ (ReqV.mk x21.client x21.seq x21.op ⟨x30.a, x30.c, (rdText (x9.2.l.drop (rdText x9.2.l 100).2.2) 1000).2.1⟩).abs)) = false := h43; rw [show formedQ (ReqV.mk x21.client x21.seq x21.op ⟨x30.a, x30.c, (rdText (x9.2.l.drop (rdText x9.2.l 100).2.2) 1000).2.1⟩).abs = false from hh] at h; cases h)]
 rw [e]
 exact zX (ReqV.mk x21.client x21.seq x21.op ⟨x30.a, x30.c, (rdText (x9.2.l.drop (rdText x9.2.l 100).2.2) 1000).2.1⟩) [_, _] Tryz.results148 ⟨⟨_, rfl, res_cellN rfl⟩, rfl, trivial⟩ rfl (fun w hw => (SB w hw : St w0 (row (.slice x30.a ((rdText (x9.2.l.drop (rdText x9.2.l 100).2.2) 1000).2.1).length x30.c) 5 1 (bytesV ((rdText (x9.2.l.drop (rdText x9.2.l 100).2.2) 1000).2.1)) :: H) w).addPure (by rw [← h21]; rfl))
end
section
open Go.RowKit Go.Sx
set_option maxRecDepth 100000
set_option maxHeartbeats 1000000
def encZ (n : Int) : Value := .int .i64 n
instance keyZ : Key Tryz.prog 3 encZ where
 eq x y w := equal_run (x := encZ x) (y := encZ y) (h := (inferInstance : EqV Tryz.prog 3 (.int .i64 x) (.int .i64 y) _)) w
 now d hd x y := by
  rw [Tryz.underlying3] at hd
  obtain rfl : .int .i64 = d := by simpa using hd
  right
  simp only [encZ, Instr.sameNow, if_true]
  congr 1
 there := by rw [Tryz.underlying3]; rfl
 check k empty w := by
  have h : ∀ n, n = 9999 + 1 → (Instr.checkKey empty n 3 (encZ k)).run Tryz.prog w = .ok () w := fun n hn => by
   rw [hn, Instr.checkKey]
   simp only [Sem.run_bind, run_underlying Tryz.underlying3, Result.andThen_ok, encZ, Sem.run_pure]
  exact h 10000 (by decide)
 same k := by
  have h : ∀ n, Instr.sameBits n (encZ k) (encZ k) = true := fun n => by cases n <;> simp [Instr.sameBits, encZ]
  exact h 10000
abbrev EZ := List (Ent Int Int)
def updF (f : Int → Int) (r : ReqD) : Int → Int := fun c => if c = r.client then r.seq else f c
def okB : (Int → Int) → List ReqD → Bool
 | _, [] => true
 | f, r :: rs => formedQ r && decide (f r.client < r.seq) && okB (updF f r) rs
/-- Is a batch formed? -/
def fbB (ls : List ReqD) : Bool := okB (fun _ => 0) ls && decide (1 ≤ ls.length ∧ ls.length ≤ 4)
theorem okB_step (f : Int → Int) (ls : List ReqD) (k : Nat) (h : k < ls.length) : okB f (ls.drop k) = (formedQ ls[k] && decide (f ls[k].client < ls[k].seq) && okB (updF f ls[k]) (ls.drop (k + 1))) := by
 rw [List.drop_eq_getElem_cons h]; rfl
/-- The requests of a batch's bytes, from where, how many are left, those that are had. -/
def itA (l : List UInt8) : Nat → Nat → List ReqD → Int × List ReqD × Nat
 | q, 0, acc => (0, acc, q)
 | q, n + 1, acc => if (rdText (l.drop q) 2000).1 ≠ 0 then ((rdText (l.drop q) 2000).1, acc, q) else if (getG (rdText (l.drop q) 2000).2.1).1 ≠ 0 then ((getG (rdText (l.drop q) 2000).2.1).1, acc, q)
  else itA l (q + (rdText (l.drop q) 2000).2.2) n (acc ++ [(getG (rdText (l.drop q) 2000).2.1).2])
def batchG (l : List UInt8) : Int × List ReqD :=
 if (rdCount l 4).1 ≠ 0 then ((rdCount l 4).1, [])
 else if (itA l (rdCount l 4).2.2 (rdCount l 4).2.1 []).1 ≠ 0 then ((itA l (rdCount l 4).2.2 (rdCount l 4).2.1 []).1, [])
 else if (itA l (rdCount l 4).2.2 (rdCount l 4).2.1 []).2.2 < l.length then (2, [])
 else if fbB (itA l (rdCount l 4).2.2 (rdCount l 4).2.1 []).2.1 = false then (15, []) else (0, (itA l (rdCount l 4).2.2 (rdCount l 4).2.1 []).2.1)
/-- Is a request its client's? -/
def chkQ (rs : List (Vector UInt8 32)) (r : ReqD) : Int :=
 if formedQ r = false then 15 else if (rs.length : Int) ≤ r.client then 6
 else if (verV (rs.getD r.client.toNat default) (textQ r) r.sig).2 ≠ 0 then (verV (rs.getD r.client.toNat default) (textQ r) r.sig).2
 else if (verV (rs.getD r.client.toNat default) (textQ r) r.sig).1 ≠ r.seq - 1 then 5 else 0
def firstE (rs : List (Vector UInt8 32)) : List ReqD → Int
 | [] => 0
 | r :: l => if chkQ rs r ≠ 0 then chkQ rs r else firstE rs l
/-- The error of a batch of bytes. -/
def cbE (rs : List (Vector UInt8 32)) (l : List UInt8) : Int := if (batchG l).1 ≠ 0 then (batchG l).1 else firstE rs (batchG l).2
theorem firstE_step (rs : List (Vector UInt8 32)) (ls : List ReqD) (k : Nat) (h : k < ls.length) : firstE rs (ls.drop k) = if chkQ rs ls[k] ≠ 0 then chkQ rs ls[k] else firstE rs (ls.drop (k + 1)) := by
 rw [List.drop_eq_getElem_cons h]; rfl
theorem itA_bad1 {l : List UInt8} {q n : Nat} {acc : List ReqD} (h : (rdText (l.drop q) 2000).1 ≠ 0) : itA l q (n + 1) acc = ((rdText (l.drop q) 2000).1, acc, q) := if_pos h
theorem itA_bad2 {l : List UInt8} {q n : Nat} {acc : List ReqD} (h : (rdText (l.drop q) 2000).1 = 0) (h2 : (getG (rdText (l.drop q) 2000).2.1).1 ≠ 0) : itA l q (n + 1) acc = ((getG (rdText (l.drop q) 2000).2.1).1, acc, q) := by
 rw [itA, if_neg (by simpa using h), if_pos h2]
theorem itA_ok {l : List UInt8} {q n : Nat} {acc : List ReqD} (h : (rdText (l.drop q) 2000).1 = 0) (h2 : (getG (rdText (l.drop q) 2000).2.1).1 = 0) : itA l q (n + 1) acc = itA l (q + (rdText (l.drop q) 2000).2.2) n (acc ++ [(getG (rdText (l.drop q) 2000).2.1).2]) := by
 rw [itA, if_neg (by simpa using h), if_neg (by simpa using h2)]
theorem formedQ_seq {r : ReqD} (h : formedQ r = true) : 1 ≤ r.seq ∧ r.seq ≤ 8 := by
 unfold formedQ at h
 exact (of_decide_eq_true h).2.1
theorem hl32 (x : Vector UInt8 32) : (hlist x).length = 32 := by simp [hlist]
theorem formedQ_client {r : ReqD} (h : formedQ r = true) : 0 ≤ r.client := by
 unfold formedQ at h
 exact (of_decide_eq_true h).1.1
attribute [local irreducible] sha verV textQ getG rdText formedQ
theorem formedBatchQ_c {w0 : World} {H : List SA} {a : Option Addr} {c : Nat} {ls : List ReqV} [hr : RdC w0 H (.slice a ls.length c) 7 (ls.flatMap ReqV.list)] (hn : ls.length ≤ 100) :
 CT Tryz.prog w0 (H) 149 [.slice a ls.length c] (α := Unit) (fun _ => .bool (fbB (ls.map ReqV.abs))) (fun _ => H) := by
 refine CT_intro Tryz.func149 rfl Tryz.ntmps149 rfl (T2 (Qab rfl rfl (T4 (ze rfl (Ef_makeMap encZ encZ (fun r6 => ?_))))))
 refine zy (za (.map _) rfl) (TX (zS (T2 (Qms rfl rfl (zy (zL rfl Tryz.underlying149) (Qmi rfl rfl (TX (zB ?_))))))))
 refine T_loop [2, 5, 9, 10, 11, 12, 13, 14, 15, 16, 17, 18, 19, 20, 21, 22, 23, 24, 25, 26, 27, 28, 29, 30] [9] (fun us H' => ∃ (k : Nat) (es : EZ) (cl : Nat), us = [.int .i64 (k : Int)] ∧ blk r6 (mapO encZ encZ es cl) :: H = H' ∧ k ≤ ls.length ∧ (okB (fun _ => 0) (ls.map ReqV.abs) = okB (fun z => (getE es z).getD 0) ((ls.map ReqV.abs).drop k))) (fun us => match us with | .int _ i :: _ => ls.length - i.toNat | _ => 0) ⟨0, [], 0, rfl, rfl, by omega, rfl⟩ SB ?_
 rintro τ0 _ _  ⟨k, es, cl, rfl, rfl, hk0, hi⟩ _
 refine T2 (zy (Qt_lss rfl rfl) (TX (zS (zC rfl (fun h10 => ?_) (fun h10 => ?_)))))
 ·
  have p10 := cL h10
  have hk : k < ls.length := by omega
  have hst := okB_step (fun z => (getE es z).getD 0) (ls.map ReqV.abs) k (by simpa using hk)
  have hgk : ((ls.map ReqV.abs)[k]'(by simpa using hk)) = ls[k].abs := by simp
  rw [hgk] at hst
  refine zk (zx (zS (zB (T2 (zy (Qt_indexN rfl rfl (by omega) (by omega)) (zy (Qt_val (Qt_loadRN 7 ls[k].list rfl (flat_slice _ 7 ReqV.list_len ls k hk) (ReqV.list_len _) (by decide)) (show Value.agg ls[k].list.toArray = Value.agg ls[k].cells from rfl)) (ze rfl (Ef_allocN (fun b5 => ?_)))))))))
  refine zN (zs rfl rfl (TX (zS (T2 (zy (zn rfl rfl) (ze rfl (zc (formedQ_c (r := ls[k])) rfl (fun x14 => ?_))))))))
  refine zy (Qt_not rfl) (Qmb rfl rfl (TL_split 16 rfl (fun h16 => ?_) (fun h16 => ?_)))
  ·
   have p16 := cL h16
   refine zp rfl rfl h16 rfl (zp rfl rfl h16 rfl (zp rfl rfl h16 rfl (zp rfl rfl h16 rfl (zp rfl rfl h16 rfl (zp rfl rfl h16 rfl (zp rfl rfl h16 rfl (zy (zT (.bool _) rfl h16 rfl) (TX (T_cond_true rfl rfl (T2 (Qab rfl rfl (TX (zQ (zr (zb (zr (X_loop_ret (zb (zr ?_)))))))))))))))))))
   have e : fbB (ls.map ReqV.abs) = false := by unfold fbB; rw [hi, hst, show formedQ ls[k].abs = false from by simpa using p16]; rfl
   rw [e]
   exact zX () [_] Tryz.results149 ⟨rfl, trivial⟩ rfl SB
  have p16 := cL h16
  refine zt rfl rfl h16 (zy (zf 1 rfl rfl) (zt rfl rfl h16 (zy (zl rfl) (zt rfl rfl h16 (zy (zm (.map _) rfl) (zt rfl rfl h16 (zy (zf 0 rfl rfl) (zt rfl rfl h16 (zy (zl rfl) (zt rfl rfl h16 (zy (Qt_lookup1 (key := ls[k].client) (enc := encZ) (ev := encZ) ((0 : Int)) rfl rfl Tryz.underlying137 ((inferInstance : TyZ Tryz.prog 3 (.int .i64 0)).ok)) ?_)))))))))))
  refine zt rfl rfl h16 (zy (Qt_leq rfl rfl) (zy (zF (.bool _) rfl h16 rfl) (TX (zC rfl (fun h24 => ?_) (fun h24 => ?_)))))
  ·
   have p24 := cL h24
   refine T2 (Qab rfl rfl (TX (zQ (zr (zb (zr (X_loop_ret (zb (zr ?_)))))))))
   have hx : ¬ (getE es ls[k].abs.client).getD 0 < ls[k].abs.seq := by show ¬ (getE es ls[k].client).getD 0 < ls[k].seq; omega
   have e : fbB (ls.map ReqV.abs) = false := by unfold fbB; rw [hi, hst, decide_eq_false hx, Bool.and_false]; rfl
   rw [e]
   exact zX () [_] Tryz.results149 ⟨rfl, trivial⟩ rfl SB
  have p24 := cL h24
  have hx : (getE es ls[k].abs.client).getD 0 < ls[k].abs.seq := by show (getE es ls[k].client).getD 0 < ls[k].seq; omega
  rw [p16, decide_eq_true hx, Bool.true_and, Bool.true_and] at hst
  refine zk (zx (zR (zy (zm (.map _) rfl) (zy (zf 0 rfl rfl) (zy (zl rfl) (zy (zf 1 rfl rfl) (zy (zl rfl) (zN (Ef_mapUpdate (key := ls[k].client) (enc := encZ) (ev := encZ) (ls[k].seq) rfl rfl rfl Tryz.underlying137 (zz (X_block (zx (zR ?_)))))))))))))
  refine zy (zj rfl rfl) (Qmi rfl rfl (zz ?_))
  apply X_loop
  case ha => exact zA
  case hI => exact ⟨k + 1, (putE es ls[k].client ls[k].seq cl), (clockE es ls[k].client cl), rfl, rfl, by omega, by rw [hi, hst]; exact congrArg (fun g => okB g _) (funext fun z => by
   show (if z = ls[k].client then ls[k].seq else (getE es z).getD 0) = _
   rw [getE_putK]; by_cases hz : z = ls[k].client
   · rw [if_pos hz, if_pos hz]; rfl
   · rw [if_neg hz, if_neg hz])⟩
  case hm => exact by show ls.length - (k + 1 : Int).toNat < ls.length - (k : Int).toNat; omega
  case hH => exact SB
 have p10 := cL h10
 have hkn : k = ls.length := by omega
 subst hkn
 have hok : okB (fun _ => 0) (ls.map ReqV.abs) = true := by rw [hi, List.drop_of_length_le (by simp)]; rfl
 refine zY (zG (zW (zE (zx (T2 (Qms rfl rfl (zy (zL rfl Tryz.underlying149) (zy (Qt_geq rfl rfl) (Qmb rfl rfl (TL_split 34 rfl (fun h34 => ?_) (fun h34 => ?_)))))))))))
 ·
  have p34 := cL h34
  refine zt rfl rfl h34 (Qms rfl rfl (zt rfl rfl h34 (zy (zL rfl Tryz.underlying149) (zt rfl rfl h34 (zy (Qt_leq rfl rfl) (zy (zT (.bool _) rfl h34 rfl) (Qab rfl rfl (TX (zQ ?_)))))))))
  have e : fbB (ls.map ReqV.abs) = decide (1 ≤ ls.length ∧ ls.length ≤ 4) := by unfold fbB; rw [hok, List.length_map]; rfl
  rw [e]
  exact zX () [_] Tryz.results149 ⟨rfl, trivial⟩ (congrArg Value.bool (by rw [Bool.eq_iff_iff]; simp only [decide_eq_true_eq, Bool.false_eq_true, false_iff]; omega)) SB
 have p34 := cL h34
 refine zp rfl rfl h34 rfl (zp rfl rfl h34 rfl (zp rfl rfl h34 rfl (zy (zF (.bool _) rfl h34 rfl) (Qab rfl rfl (TX (zQ ?_))))))
 have e : fbB (ls.map ReqV.abs) = decide (1 ≤ ls.length ∧ ls.length ≤ 4) := by unfold fbB; rw [hok, List.length_map]; rfl
 rw [e]
 exact zX () [_] Tryz.results149 ⟨rfl, trivial⟩ (congrArg Value.bool (by rw [Bool.eq_iff_iff]; simp only [decide_eq_true_eq, Bool.false_eq_true, false_iff]; omega)) SB
theorem getBatch_c {w0 : World} {H : List SA} {a : Option Addr} {l : List UInt8} {c : Nat} [hr : RdB w0 H (.slice a l.length c) l] (hl : l.length ≤ 4294967296) :
 CT Tryz.prog w0 (H) 103 [.slice a l.length c] (α := (AC × List ReqV) × List Nat) (fun y => .tuple #[.slice y.1.1.a y.1.2.length y.1.1.c, .int .i64 (batchG l).1]) (fun y => pu (y.1.2.map ReqV.abs = (batchG l).2 ∧ (∀ x ∈ y.1.2, Sig64 x.op.a ∧ Sig64 x.op.b) ∧ y.1.2.length ≤ 4) :: row (.slice y.1.1.a (y.1.2).length y.1.1.c) 200 7 ((y.1.2).flatMap ReqV.list) :: dat y.2 ⟨(y.1.2).map ReqV.sig, [], []⟩ :: H) := by
 refine CT_intro Tryz.func103 rfl Tryz.ntmps103 rfl (T2 (Qas rfl rfl (Qai rfl rfl (T4 (Qms rfl rfl (ze rfl (zc (rnew_c hl) rfl (fun x12 => ?_))))))))
 refine TL_pure (fun h12 => ?_)
 refine zy (za (.pointer _) rfl) (T4 (zy (zm (.pointer _) rfl) (TL_frontB x12.1 (ze rfl (zc (count_c (b := x12.2) (k := 0) (m := 4) (by omega) (by rw [h12]; omega) (by decide)) rfl (fun x15 => ?_))))))
 rw [List.drop_zero]
 obtain ⟨hb1, hb2, hb3⟩ := rdCount_bound x12.2.l 4
 rw [Nat.zero_add]
 refine zy (zm (.tuple _) rfl) (zy (Qt_extract rfl) (zy (Qt_extract rfl) (Qai rfl rfl (Qai rfl rfl (TX (zS (T2 (Qmi rfl rfl (zy (Qt_neq rfl rfl) (TX (zC rfl (fun h19 => ?_) (fun h19 => ?_))))))))))))
 ·
  have p19 := cL h19
  refine T2 (Qmi rfl rfl (Qas rfl rfl (Qai rfl rfl (TX (zQ (zr ?_))))))
  have e : batchG l = ((rdCount x12.2.l 4).1, []) := by
   rw [← h12]; unfold batchG; rw [if_pos p19]
  simp only [e]
  exact zX ((⟨none, 0⟩, []), []) [_, _] Tryz.results103 ⟨rfl, rfl, trivial⟩ rfl (fun w hw => by
   have h0 : St w0 H w := SB w hw
   exact St.addPure (h0.datNil.addNil 200 7) ⟨rfl, fun x hx => (by cases hx), Nat.zero_le _⟩)
 have p19 := cL h19
 have hc0 : (rdCount x12.2.l 4).1 = 0 := by omega
 have hc4 := (rdCount_ok hc0).2.1
 rw [← show rdCount x12.2.l 4 = rdPacked x12.2.l from (rdCount_ok hc0).1] at hc4
 refine S4 (Qas rfl rfl (TX (zS (T2 (Qmi rfl rfl (Qmi rfl rfl (TX (zB ?_))))))))
 refine T_loop [2, 3, 7, 8, 9, 10, 22, 23, 24, 25, 26, 27, 28, 29, 30, 31, 32, 33, 34, 35, 36, 37, 38, 39, 40, 41, 42, 43, 44] [22, 7] (fun us H' => ∃ (k : Nat) (a7 : Option Addr) (c7 : Nat) (ls : List ReqV) (fp : List Nat) (q : Nat), us = [.int .i64 (k : Int), .slice a7 ls.length c7] ∧ row (.slice a7 (ls).length c7) 200 7 ((ls).flatMap ReqV.list) :: dat fp ⟨(ls).map ReqV.sig, [], []⟩ :: blk x12.1 (.cells (ReaderV.mk x12.2 ((q : Nat) : Int)).cells 222 (0, 0)) :: row (.slice x12.2.a x12.2.l.length x12.2.c) 5 1 (bytesV x12.2.l) :: H = H' ∧ k ≤ (rdCount x12.2.l 4).2.1 ∧ ((itA x12.2.l (rdCount x12.2.l 4).2.2 (rdCount x12.2.l 4).2.1 []) = itA x12.2.l q ((rdCount x12.2.l 4).2.1 - k) (ls.map ReqV.abs)) ∧ (ls.length = k) ∧ (q ≤ x12.2.l.length) ∧ (∀ x ∈ ls, Sig64 x.op.a ∧ Sig64 x.op.b)) (fun us => match us with | .int _ i :: _ => (rdCount x12.2.l 4).2.1 - i.toNat | _ => 0) ⟨0, none, 0, [], [], (rdCount x12.2.l 4).2.2, rfl, rfl, by omega, rfl, rfl, hb2, fun x hx => by cases hx⟩ (fun w hw => by
  have h0 : St w0 (blk x12.1 (.cells (ReaderV.mk x12.2 (((rdCount x12.2.l 4).2.2 : Nat) : Int)).cells 222 (0, 0)) :: row (.slice x12.2.a x12.2.l.length x12.2.c) 5 1 (bytesV x12.2.l) :: H) w := SB w hw
  exact (h0.datNil).addNil 200 7) ?_
 rintro τ0 _ _  ⟨k, a7, c7, ls, fp, q, rfl, rfl, hk0, hi, hll, hq, hsg⟩ _
 refine T2 (zy (Qt_lss rfl rfl) (TX (zS (zC rfl (fun h23 => ?_) (fun h23 => ?_)))))
 ·
  have p23 := cL h23
  have hk : k < (rdCount x12.2.l 4).2.1 := by omega
  rw [show (rdCount x12.2.l 4).2.1 - k = ((rdCount x12.2.l 4).2.1 - (k + 1)) + 1 from by omega] at hi
  refine zk (zx (zS (zB (T2 (zy (zm (.pointer _) rfl) (TL_frontB x12.1 (ze rfl (zc (text_c (b := x12.2) (k := q) (m := 2000) hq (by rw [h12]; omega) (by decide)) rfl (fun x26 => ?_)))))))))
  obtain ⟨ht1, ht2⟩ := rdText_bound (x12.2.l.drop q) 2000
  rw [List.length_drop] at ht1 ht2
  refine zy (zm (.tuple _) rfl) (zy (Qt_extract rfl) (zy (Qt_extract rfl) (Qas rfl rfl (Qai rfl rfl (TX (zS (T2 (Qmi rfl rfl (zy (Qt_neq rfl rfl) (TX (zC rfl (fun h30 => ?_) (fun h30 => ?_))))))))))))
  ·
   have p30 := cL h30
   rw [itA_bad1 p30] at hi
   refine T2 (Qmi rfl rfl (Qas rfl rfl (Qai rfl rfl (TX (zQ (zr (zb (zr (X_loop_ret (zb (zr ?_)))))))))))
   have e : batchG l = ((rdText (x12.2.l.drop q) 2000).1, []) := by
    rw [← h12]; unfold batchG; rw [if_neg (by omega), if_pos (by rw [hi]; exact p30), hi]
   simp only [e]
   exact zX ((⟨none, 0⟩, []), []) [_, _] Tryz.results103 ⟨rfl, rfl, trivial⟩ rfl (fun w hw => by
    have h0 : St w0 H w := SB w hw
    exact St.addPure (h0.datNil.addNil 200 7) ⟨rfl, fun x hx => (by cases hx), Nat.zero_le _⟩)
  have p30 := cL h30
  refine S4 (Qms rfl rfl (ze rfl (zc (getQ_c (a := x26.a) (l := (rdText (x12.2.l.drop q) 2000).2.1) (c := x26.c) (by have := congrArg List.length h12; omega)) rfl (fun x34 => ?_))))
  refine TL_pure (fun h34 => ?_)
  have hys := getG_sig (rdText (x12.2.l.drop q) 2000).2.1
  rw [← h34] at hys
  refine zy (zm (.tuple _) rfl) (zy (Qt_extract rfl) (zy (Qt_extract rfl) (ze rfl (Ef_allocN (fun b10 => ?_)))))
  refine zN (zs rfl rfl (Qai rfl rfl (TX (zS (T2 (Qmi rfl rfl (zy (Qt_neq rfl rfl) (TX (zC rfl (fun h38 => ?_) (fun h38 => ?_))))))))))
  ·
   have p38 := cL h38
   rw [itA_bad2 (by omega) p38] at hi
   refine T2 (Qmi rfl rfl (Qas rfl rfl (Qai rfl rfl (TX (zQ (zr (zb (zr (X_loop_ret (zb (zr ?_)))))))))))
   have e : batchG l = ((getG (rdText (x12.2.l.drop q) 2000).2.1).1, []) := by
    rw [← h12]; unfold batchG; rw [if_neg (by omega), if_pos (by rw [hi]; exact p38), hi]
   simp only [e]
   exact zX ((⟨none, 0⟩, []), []) [_, _] Tryz.results103 ⟨rfl, rfl, trivial⟩ rfl (fun w hw => by
    have h0 : St w0 H w := SB w hw
    exact St.addPure (h0.datNil.addNil 200 7) ⟨rfl, fun x hx => (by cases hx), Nat.zero_le _⟩)
  have p38 := cL h38
  rw [itA_ok (by omega) (by omega), ← h34] at hi
  refine zk (zx (zR (Qms rfl rfl (zy (zn rfl rfl) (ze rfl (Ef_sliceN (m := ([x34] : List ReqV).length) [.agg (x34).cells] (([x34] : List ReqV).flatMap ReqV.list) rfl rfl rfl rfl (by simp [Value.cells, ReqV.size]) rfl rfl (fun a42 c42 => ?_)))))))
  refine ze rfl (Ef_appendS ReqV.list (sv := .slice _ _ _) (xv := .slice _ _ _) (xs := ls) (ys := [x34]) ReqV.list_len ReqV.list_one rfl rfl (by simp; omega) rfl rfl (fun a43 c43 => ?_))
  refine Qas rfl rfl (zz (X_block (zx (zR (zy (zj rfl rfl) (Qmi rfl rfl (zz ?_)))))))
  apply X_loop
  case ha => exact zA
  case hI => exact ⟨k + 1, a43, c43, ls ++ [x34], (fp ++ (rowFp (.slice x34.sig.a x34.sig.l.length x34.sig.c))), _, rfl, rfl, by omega, by rw [hi, List.map_append]; rfl, by simp [hll], by omega, fun x hx => by rcases List.mem_append.1 hx with h | h; exact hsg x h; rw [List.mem_singleton.1 h]; exact hys⟩
  case hm => exact by show (rdCount x12.2.l 4).2.1 - (k + 1 : Int).toNat < (rdCount x12.2.l 4).2.1 - (k : Int).toNat; omega
  case hH => exact (fun w hw => by
   have h1 : St w0 (row (.slice x34.sig.a x34.sig.l.length x34.sig.c) 5 1 (bytesV x34.sig.l) :: dat fp ⟨(ls).map ReqV.sig, [], []⟩ :: row (.slice a43 (ls ++ [x34]).length c43) 200 7 ((ls ++ [x34]).flatMap ReqV.list) :: blk x12.1 (.cells (ReaderV.mk x12.2 ((q + (rdText (x12.2.l.drop q) 2000).2.2 : Nat) : Int)).cells 222 (0, 0)) :: row (.slice x12.2.a x12.2.l.length x12.2.c) 5 1 (bytesV x12.2.l) :: H) w := SB w hw
   have h3 : St w0 (dat fp ⟨(ls).map ReqV.sig, [], []⟩ :: dat (rowFp (.slice x34.sig.a x34.sig.l.length x34.sig.c)) ⟨[x34.sig], [], []⟩ :: row (.slice a43 (ls ++ [x34]).length c43) 200 7 ((ls ++ [x34]).flatMap ReqV.list) :: blk x12.1 (.cells (ReaderV.mk x12.2 ((q + (rdText (x12.2.l.drop q) 2000).2.2 : Nat) : Int)).cells 222 (0, 0)) :: row (.slice x12.2.a x12.2.l.length x12.2.c) 5 1 (bytesV x12.2.l) :: H) w := Subs.st inferInstance w h1.datB
   have h4 : St w0 (dat (fp ++ (rowFp (.slice x34.sig.a x34.sig.l.length x34.sig.c))) ⟨(ls ++ [x34]).map ReqV.sig, [], []⟩ :: row (.slice a43 (ls ++ [x34]).length c43) 200 7 ((ls ++ [x34]).flatMap ReqV.list) :: blk x12.1 (.cells (ReaderV.mk x12.2 ((q + (rdText (x12.2.l.drop q) 2000).2.2 : Nat) : Int)).cells 222 (0, 0)) :: row (.slice x12.2.a x12.2.l.length x12.2.c) 5 1 (bytesV x12.2.l) :: H) w := by
    rw [List.map_append]; exact h3.datAdd
   exact Subs.st inferInstance w h4)
 have p23 := cL h23
 have hkn : k = (rdCount x12.2.l 4).2.1 := by omega
 rw [hkn, Nat.sub_self] at hi
 have hie : (itA x12.2.l (rdCount x12.2.l 4).2.2 (rdCount x12.2.l 4).2.1 []) = (0, ls.map ReqV.abs, q) := hi
 refine zY (zG (zW (zE (zx (zS (zB (T2 (zy (zm (.pointer _) rfl) (TL_frontB x12.1 (ze rfl (zc (done_c (b := x12.2) (k := q) hq (by rw [h12]; omega)) rfl (fun x47 => ?_))))))))))))
 refine zy (Qt_neq rfl rfl) (Qab rfl rfl (TX (zC rfl (fun h45 => ?_) (fun h45 => ?_))))
 ·
  have p45 := cL h45
  have hdn : q < x12.2.l.length := by by_cases hh : q < x12.2.l.length; exact hh; simp [hh] at h45
  refine T2 (Qas rfl rfl (Qai rfl rfl (TX (zQ (zb (zr ?_))))))
  have e : batchG l = (2, []) := by
   rw [← h12]; unfold batchG; rw [if_neg (by omega), if_neg (by rw [hie]; simp), if_pos (by rw [hie]; exact hdn)]
  simp only [e]
  exact zX ((⟨none, 0⟩, []), []) [_, _] Tryz.results103 ⟨rfl, rfl, trivial⟩ rfl (fun w hw => by
   have h0 : St w0 H w := SB w hw
   exact St.addPure (h0.datNil.addNil 200 7) ⟨rfl, fun x hx => (by cases hx), Nat.zero_le _⟩)
 have p45 := cL h45
 have hdn : ¬ q < x12.2.l.length := by intro hh; simp [hh] at h45
 refine T2 (Qms rfl rfl (ze rfl (zc (formedBatchQ_c (ls := ls) (by omega)) rfl (fun x51 => ?_))))
 refine zy (Qt_not rfl) (Qab rfl rfl (TX (zC rfl (fun h49 => ?_) (fun h49 => ?_))))
 ·
  have p49 := cL h49
  refine T2 (Qas rfl rfl (Qai rfl rfl (TX (zQ (zb (zr ?_))))))
  have e : batchG l = (15, []) := by
   rw [← h12]; unfold batchG; rw [if_neg (by omega), if_neg (by rw [hie]; simp), if_neg (by rw [hie]; exact hdn), if_pos (by rw [hie]; simpa using h49)]
  simp only [e]
  exact zX ((⟨none, 0⟩, []), []) [_, _] Tryz.results103 ⟨rfl, rfl, trivial⟩ rfl (fun w hw => by
   have h0 : St w0 H w := SB w hw
   exact St.addPure (h0.datNil.addNil 200 7) ⟨rfl, fun x hx => (by cases hx), Nat.zero_le _⟩)
 have p49 := cL h49
 refine zk (X_block (zx (T2 (Qms rfl rfl (Qas rfl rfl (Qai rfl rfl (TX (zQ ?_))))))))
 have e : batchG l = (0, ls.map ReqV.abs) := by
  rw [← h12]; unfold batchG; rw [if_neg (by omega), if_neg (by rw [hie]; simp), if_neg (by rw [hie]; exact hdn), if_neg (by rw [hie]; simpa using h49), hie]
 rw [e]
 exact zX ((⟨a7, c7⟩, ls), fp) [_, _] Tryz.results103 ⟨rfl, rfl, trivial⟩ rfl (fun w hw => (SB w hw : St w0 (row (.slice a7 (ls).length c7) 200 7 ((ls).flatMap ReqV.list) :: dat fp ⟨(ls).map ReqV.sig, [], []⟩ :: H) w).addPure ⟨rfl, hsg, by show ls.length ≤ 4; omega⟩)
theorem chkQ_c {w0 : World} {H : List SA} {sa : Option Addr} {sc : Nat} {ks : List BS} {ra : Option Addr} {rc : Nat} {rs : List (Vector UInt8 32)} [hrr : RdC w0 H (.slice ra rs.length rc) 32 (rs.flatMap hlist)] (hrs : rs.length ≤ 1000) {r : ReqV} (ha : Sig64 r.op.a) (hb : Sig64 r.op.b) [hsg : RdB w0 H (.slice r.sig.a r.sig.l.length r.sig.c) r.sig.l] :
 CT Tryz.prog w0 (H) 104 [.agg (KeysV.mk ⟨sa, sc, ks⟩ ⟨ra, rs.length, rc⟩).cells, .agg r.cells] (α := Unit) (fun _ => .int .i64 (chkQ rs r.abs)) (fun _ => H) := by
 refine CT_intro Tryz.func104 rfl Tryz.ntmps104 rfl (T2 (ze rfl (Ef_boxN rfl (fun b2 => ?_))))
 refine ze rfl (Ef_boxN rfl (fun b3 => ?_))
 refine Qai rfl rfl (TX (zS (zB (T2 (zy (zn rfl rfl) (ze rfl (zc (formedQ_c (r := r)) rfl (fun x9 => ?_))))))))
 refine zy (Qt_not rfl) (Qab rfl rfl (TX (zC rfl (fun h7 => ?_) (fun h7 => ?_))))
 ·
  have p7 := cL h7
  refine T2 (Qai rfl rfl (TX (zQ (zb (zr ?_)))))
  have e : chkQ rs r.abs = 15 := by
   unfold chkQ; rw [if_pos (by simpa using h7)]
  rw [e]
  exact zX () [_] Tryz.results104 ⟨rfl, trivial⟩ rfl SB
 have p7 := cL h7
 refine T2 (zy (zf 0 rfl rfl) (zy (zl rfl) (zy (zf 1 rfl rfl) (zy (zl rfl) (zy (zL rfl Tryz.underlying25) (zy (Qt_geq rfl rfl) (Qab rfl rfl (TX (zC rfl (fun h11 => ?_) (fun h11 => ?_))))))))))
 ·
  have p11 := cL h11
  refine T2 (Qai rfl rfl (TX (zQ (zb (zr ?_)))))
  have e : chkQ rs r.abs = 6 := by
   unfold chkQ; rw [if_neg (by simpa using h7), if_pos (by show (rs.length : Int) ≤ r.client; omega)]
  rw [e]
  exact zX () [_] Tryz.results104 ⟨rfl, trivial⟩ rfl SB
 have p11 := cL h11
 have hfq : formedQ r.abs = true := by simpa using h7
 have hc0 := formedQ_client hfq
 have hsq : 1 ≤ r.seq ∧ r.seq ≤ 8 := formedQ_seq hfq
 have hw : IntKind.i64.wrap (r.seq - 1) = r.seq - 1 := by simp [IntKind.wrap, IntKind.bits, IntKind.signed]; omega
 obtain ⟨n, hcn⟩ := Int.eq_ofNat_of_zero_le (show 0 ≤ r.client from hc0)
 have hn : n < rs.length := by omega
 have hgd : rs.getD r.abs.client.toNat default = rs[n] := by
  show rs.getD r.client.toNat default = rs[n]
  rw [hcn, Int.toNat_natCast, List.getD_eq_getElem?_getD, List.getElem?_eq_getElem hn]; rfl
 refine zk (X_block (zx (zS (zD (blk b2 (.cells (KeysV.mk ⟨sa, sc, ks⟩ ⟨ra, rs.length, rc⟩).cells 40 (0, 0)) :: blk b3 (.cells r.cells 200 (0, 0)) :: H) [(0, true), (1, true), (2, true), (3, true), (4, true), (5, true), (6, true), (8, true), (9, true), (7, false), (10, false), (11, true), (12, true), (13, true), (14, true), (15, true)] SB (fun hns0 => ?_)))))
 refine zd hns0 rfl (zf 1 rfl rfl) rfl (zd hns0 rfl (zl rfl) rfl (zd hns0 rfl (zf 0 rfl rfl) rfl (zd hns0 rfl (zl rfl) rfl (zd hns0 rfl (Qt_indexN rfl (show Value.int .i64 r.client = .int .i64 (n : Int) from by rw [hcn]) (by omega) (by simp; omega)) rfl (zd hns0 rfl (Qt_loadRN 32 (hlist rs[n]) rfl (flat_slice _ 32 hl32 rs n hn) (hl32 _) (by decide)) rfl (zd hns0 rfl (zn rfl rfl) rfl (zd hns0 rfl (zf 6 rfl rfl) rfl (zd hns0 rfl (zl rfl) rfl ?_))))))))
 refine DL_e rfl rfl (zc (textQ_c (r := r) ha hb) rfl (fun x26 => ⟨SB, ?_⟩))
 refine DL_e rfl rfl (zc (verify_c (root := rs[n]) (tl := textQ r.abs) (by have := textQ_len (r := r.abs) ha hb; omega) (sl := r.sig.l)) rfl (fun x29 => ⟨SB, ?_⟩))
 refine zd hns0 rfl (zm (.tuple _) rfl) rfl (zd hns0 rfl (Qt_extract rfl) rfl (zd hns0 rfl (Qt_extract rfl) rfl (zd hns0 rfl (za (.int .i64 _) rfl) rfl (zd hns0 rfl (za (.int .i64 _) rfl) rfl (DL_nil (zx (zS (zB (T2 (Qmi rfl rfl (zy (Qt_neq rfl rfl) (Qab rfl rfl (TX (zC rfl (fun h32 => ?_) (fun h32 => ?_)))))))))))))))
 ·
  have p32 := cL h32
  refine T2 (Qmi rfl rfl (Qai rfl rfl (TX (zQ (zb (zr ?_))))))
  have e : chkQ rs r.abs = (verV rs[n] (textQ r.abs) r.sig.l).2 := by
   unfold chkQ; rw [if_neg (by simpa using h7), if_neg (by show ¬ (rs.length : Int) ≤ r.client; omega), hgd, show r.abs.sig = r.sig.l from rfl, show r.abs.seq = r.seq from rfl, if_pos p32]
  rw [e]
  exact zX () [_] Tryz.results104 ⟨rfl, trivial⟩ rfl SB
 have p32 := cL h32
 refine T2 (Qmi rfl rfl (zy (zf 1 rfl rfl) (zy (zl rfl) (zy (zh rfl rfl) (zy (Qt_neq rfl rfl) (Qab rfl rfl (TX (zC rfl (fun h36 => ?_) (fun h36 => ?_)))))))))
 ·
  have p36 := cL h36
  refine T2 (Qai rfl rfl (TX (zQ (zb (zr ?_)))))
  have e : chkQ rs r.abs = 5 := by
   unfold chkQ; rw [if_neg (by simpa using h7), if_neg (by show ¬ (rs.length : Int) ≤ r.client; omega), hgd, show r.abs.sig = r.sig.l from rfl, show r.abs.seq = r.seq from rfl, if_neg (fun hh => hh p32), if_pos p36]
  rw [e]
  exact zX () [_] Tryz.results104 ⟨rfl, trivial⟩ rfl SB
 have p36 := cL h36
 refine zk (X_block (zx (T2 (Qai rfl rfl (TX (zQ ?_))))))
 have e : chkQ rs r.abs = 0 := by
  unfold chkQ; rw [if_neg (by simpa using h7), if_neg (by show ¬ (rs.length : Int) ≤ r.client; omega), hgd, show r.abs.sig = r.sig.l from rfl, show r.abs.seq = r.seq from rfl, if_neg (fun hh => hh p32), if_neg (fun hh => hh p36)]
 rw [e]
 exact zX () [_] Tryz.results104 ⟨rfl, trivial⟩ rfl SB
theorem checkBatchE_c {w0 : World} {H : List SA} {sa : Option Addr} {sc : Nat} {ks : List BS} {ra : Option Addr} {rc : Nat} {rs : List (Vector UInt8 32)} [hrr : RdC w0 H (.slice ra rs.length rc) 32 (rs.flatMap hlist)] (hrs : rs.length ≤ 1000) {a : Option Addr} {l : List UInt8} {c : Nat} [hr : RdB w0 H (.slice a l.length c) l] (hl : l.length ≤ 4294967296) :
 CT Tryz.prog w0 (H) 61 [.agg (KeysV.mk ⟨sa, sc, ks⟩ ⟨ra, rs.length, rc⟩).cells, .slice a l.length c] (α := Sl) (fun y => .tuple #[.slice y.a y.n y.c, .int .i64 (cbE rs l)]) (fun _ => H) := by
 refine CT_intro Tryz.func61 rfl Tryz.ntmps61 rfl (T2 (ze rfl (Ef_boxN rfl (fun b2 => ?_))))
 refine Qas rfl rfl (Qai rfl rfl (T4 (Qms rfl rfl (ze rfl (zc (getBatch_c hl) rfl (fun x13 => ?_))))))
 refine TL_pure (fun h13 => ?_)
 obtain ⟨h13, hx13, hl13⟩ := h13
 refine zy (zm (.tuple _) rfl) (zy (Qt_extract rfl) (zy (Qt_extract rfl) (Qas rfl rfl (Qai rfl rfl (TX (zS (T2 (Qmi rfl rfl (zy (Qt_neq rfl rfl) (TX (zC rfl (fun h17 => ?_) (fun h17 => ?_))))))))))))
 ·
  have p17 := cL h17
  refine T2 (Qmi rfl rfl (Qas rfl rfl (Qai rfl rfl (TX (zQ (zr ?_))))))
  have e : cbE rs l = (batchG l).1 := by
   exact if_pos p17
  rw [e]
  exact zX (⟨none, 0, 0⟩ : Sl) [_, _] Tryz.results61 ⟨rfl, rfl, trivial⟩ rfl SB
 have p17 := cL h17
 have hb0 : (batchG l).1 = 0 := by omega
 refine zk (zx (zS (T2 (Qms rfl rfl (zy (zL rfl Tryz.underlying149) (Qmi rfl rfl (TX (zB ?_))))))))
 refine T_loop [4, 5, 9, 10, 21, 22, 23, 24, 25, 26, 27, 28, 29, 30, 31] [21] (fun us H' => ∃ (k : Nat), us = [.int .i64 (k : Int)] ∧ row (.slice x13.1.1.a (x13.1.2).length x13.1.1.c) 200 7 ((x13.1.2).flatMap ReqV.list) :: dat x13.2 ⟨(x13.1.2).map ReqV.sig, [], []⟩ :: blk b2 (.cells (KeysV.mk ⟨sa, sc, ks⟩ ⟨ra, rs.length, rc⟩).cells 40 (0, 0)) :: H = H' ∧ k ≤ x13.1.2.length ∧ (firstE rs (x13.1.2.map ReqV.abs) = firstE rs ((x13.1.2.map ReqV.abs).drop k))) (fun us => match us with | .int _ i :: _ => x13.1.2.length - i.toNat | _ => 0) ⟨0, rfl, rfl, by omega, rfl⟩ SB ?_
 rintro τ0 _ _  ⟨k, rfl, rfl, hk0, hi⟩ _
 refine T2 (zy (Qt_lss rfl rfl) (TX (zS (zC rfl (fun h22 => ?_) (fun h22 => ?_)))))
 ·
  have p22 := cL h22
  have hk : k < x13.1.2.length := by omega
  have hst := firstE_step rs (x13.1.2.map ReqV.abs) k (by simpa using hk)
  have hgk : ((x13.1.2.map ReqV.abs)[k]'(by simpa using hk)) = x13.1.2[k].abs := by simp
  rw [hgk] at hst
  refine zk (zx (zS (zB (T2 (zy (Qt_indexN rfl rfl (by omega) (by simp; omega)) (zy (Qt_val (Qt_loadRN 7 x13.1.2[k].list rfl (flat_slice _ 7 ReqV.list_len x13.1.2 k hk) (ReqV.list_len _) (by decide)) (show Value.agg x13.1.2[k].list.toArray = Value.agg x13.1.2[k].cells from rfl)) (ze rfl (Ef_allocN (fun b9 => ?_)))))))))
  refine zN (zs rfl rfl (T4 (zy (zn rfl rfl) (zy (zn rfl rfl) ?_))))
  have : RdB w0 (dat x13.2 ⟨(x13.1.2).map ReqV.sig, [], []⟩ :: blk b2 (.cells (KeysV.mk ⟨sa, sc, ks⟩ ⟨ra, rs.length, rc⟩).cells 40 (0, 0)) :: H) (.slice x13.1.2[k].sig.a x13.1.2[k].sig.l.length x13.1.2[k].sig.c) x13.1.2[k].sig.l := (RdE.own2 : RdE w0 _ (x13.1.2.map ReqV.sig)).get (List.mem_map.2 ⟨_, List.getElem_mem hk, rfl⟩)
  refine ze rfl (zc (chkQ_c (sa := sa) (sc := sc) (ks := ks) (rc := rc) (rs := rs) hrs (r := x13.1.2[k]) (hx13 _ (List.getElem_mem hk)).1 (hx13 _ (List.getElem_mem hk)).2) rfl (fun x27 => ?_))
  refine Qai rfl rfl (T4 (Qmi rfl rfl (zy (Qt_neq rfl rfl) (TX (zC rfl (fun h29 => ?_) (fun h29 => ?_))))))
  ·
   have p29 := cL h29
   rw [if_pos p29] at hst
   refine T2 (Qmi rfl rfl (Qas rfl rfl (Qai rfl rfl (TX (zQ (zb (zr (X_loop_ret (zb (zr ?_))))))))))
   have e : cbE rs l = chkQ rs x13.1.2[k].abs := by
    unfold cbE; rw [if_neg (by omega), ← h13, hi, hst]
   rw [e]
   exact zX (⟨none, 0, 0⟩ : Sl) [_, _] Tryz.results61 ⟨rfl, rfl, trivial⟩ rfl SB
  have p29 := cL h29
  rw [if_neg (by omega)] at hst
  refine zk (X_block (zx (zR (zy (zj rfl rfl) (Qmi rfl rfl (zz ?_))))))
  apply X_loop
  case ha => exact zA
  case hI => exact ⟨k + 1, rfl, rfl, by omega, by rw [hi, hst]⟩
  case hm => exact by show x13.1.2.length - (k + 1 : Int).toNat < x13.1.2.length - (k : Int).toNat; omega
  case hH => exact SB
 have p22 := cL h22
 have hkn : k = x13.1.2.length := by omega
 refine zY (zG (zW (zE (zx (T2 (Qms rfl rfl (Qas rfl rfl (Qai rfl rfl (TX (zQ ?_))))))))))
 have e : cbE rs l = 0 := by
  unfold cbE; rw [if_neg (by omega), ← h13, hi, hkn, List.drop_of_length_le (by simp)]; rfl
 rw [e]
 exact zX (⟨x13.1.1.a, x13.1.2.length, x13.1.1.c⟩ : Sl) [_, _] Tryz.results61 ⟨rfl, rfl, trivial⟩ rfl SB
end
end Go.Proofs.YtnijomppbgdmnaaGreat
