/- Walks: the references on signatures and requests. -/
import Derived.Test.YtnijomppbgdmnaaGreatSgP
import Derived.Test.YtnijomppbgdmnaaGreatQcRP
import Derived.Test.YtnijomppbgdmnaaGreatSjRP
import Derived.Test.YtnijomppbgdmnaaGreatVaRP
set_option linter.unusedSimpArgs false
set_option linter.unusedVariables false
namespace Go.Proofs.YtnijomppbgdmnaaGreat
section
open Go.RowKit Go.Sx
set_option maxRecDepth 100000
set_option maxHeartbeats 1000000
attribute [local irreducible] sha putFixed cutV
theorem rRightQ_c {w0 : World} {H : List SA} {c : Int} {o : OpV} :
 CT Tryz.prog w0 (H) 182 [.int .i64 c, .agg o.cells] (α := Unit) (fun _ => .bool (rightQ c o.kind o.key o.a o.b)) (fun _ => H) := by
 refine CT_intro Tryz.func182 rfl Tryz.ntmps182 rfl (T2 (ze rfl (Ef_boxN rfl (fun b3 => ?_))))
 refine Qab rfl rfl (TX (zS (T2 (Qmi rfl rfl (zy (Qt_eql rfl rfl) (TX (zC rfl (fun h6 => ?_) (fun h6 => ?_))))))))
 ·
  have p6 := cL h6
  refine T2 (zy (zf 0 rfl rfl) (zy (zl rfl) (zy (Qt_eql rfl rfl) (Qmb rfl rfl (TL_split 10 rfl (fun h10 => ?_) (fun h10 => ?_))))))
  ·
   have p10 := cL h10
   refine zt rfl rfl h10 (zy (zf 1 rfl rfl) (zt rfl rfl h10 (zy (zl rfl) (zt rfl rfl h10 (zy (Qt_eql rfl rfl) (zy (zT (.bool _) rfl h10 rfl) (Qmb rfl rfl (TL_split 15 rfl (fun h15 => ?_) (fun h15 => ?_)))))))))
   ·
    have p15 := cL h15
    refine zt rfl rfl h15 (zy (zf 3 rfl rfl) (zt rfl rfl h15 (zy (zl rfl) (zt rfl rfl h15 (zy (Qt_eql rfl rfl) (zy (zT (.bool _) rfl h15 rfl) (Qmb rfl rfl (TL_split 20 rfl (fun h20 => ?_) (fun h20 => ?_)))))))))
    ·
     have p20 := cL h20
     refine zt rfl rfl h20 (zy (zf 2 rfl rfl) (zt rfl rfl h20 (zy (zl rfl) (zt rfl rfl h20 (zy (Qt_geq rfl rfl) (zy (zT (.bool _) rfl h20 rfl) (Qmb rfl rfl (TL_split 25 rfl (fun h25 => ?_) (fun h25 => ?_)))))))))
     ·
      have p25 := cL h25
      refine zt rfl rfl h25 (zy (zf 2 rfl rfl) (zt rfl rfl h25 (zy (zl rfl) (zt rfl rfl h25 (zy (Qt_leq rfl rfl) (zy (zT (.bool _) rfl h25 rfl) (Qab rfl rfl (TX (zQ (zr ?_))))))))))
      exact zX () [_] Tryz.results182 ⟨rfl, trivial⟩ (congrArg Value.bool (by first | (unfold rightQ; simp_all; done) | (unfold rightQ; simp_all; omega) | (unfold rightQ; rw [if_pos (by omega)]; simp_all) | (unfold rightQ; rw [if_neg (by omega)]; simp_all <;> omega) | (symm; unfold rightQ; rw [if_neg (by omega)]; exact decide_eq_false (by omega)) | (unfold rightQ; rw [if_neg (by omega), Bool.eq_iff_iff]; simp only [decide_eq_true_eq]; omega))) SB
     have p25 := cL h25
     refine zp rfl rfl h25 rfl (zp rfl rfl h25 rfl (zp rfl rfl h25 rfl (zy (zF (.bool _) rfl h25 rfl) (Qab rfl rfl (TX (zQ (zr ?_)))))))
     exact zX () [_] Tryz.results182 ⟨rfl, trivial⟩ (congrArg Value.bool (by first | (unfold rightQ; simp_all; done) | (unfold rightQ; simp_all; omega) | (unfold rightQ; rw [if_pos (by omega)]; simp_all) | (unfold rightQ; rw [if_neg (by omega)]; simp_all <;> omega) | (symm; unfold rightQ; rw [if_neg (by omega)]; exact decide_eq_false (by omega)) | (unfold rightQ; rw [if_neg (by omega), Bool.eq_iff_iff]; simp only [decide_eq_true_eq]; omega))) SB
    have p20 := cL h20
    refine zp rfl rfl h20 rfl (zp rfl rfl h20 rfl (zp rfl rfl h20 rfl (zy (zF (.bool _) rfl h20 rfl) (Qmb rfl rfl (zo (zo (zo (zy (zF (.bool _) rfl rfl rfl) (Qab rfl rfl (TX (zQ (zr ?_))))))))))))
    exact zX () [_] Tryz.results182 ⟨rfl, trivial⟩ (congrArg Value.bool (by first | (unfold rightQ; simp_all; done) | (unfold rightQ; simp_all; omega) | (unfold rightQ; rw [if_pos (by omega)]; simp_all) | (unfold rightQ; rw [if_neg (by omega)]; simp_all <;> omega) | (symm; unfold rightQ; rw [if_neg (by omega)]; exact decide_eq_false (by omega)) | (unfold rightQ; rw [if_neg (by omega), Bool.eq_iff_iff]; simp only [decide_eq_true_eq]; omega))) SB
   have p15 := cL h15
   refine zp rfl rfl h15 rfl (zp rfl rfl h15 rfl (zp rfl rfl h15 rfl (zy (zF (.bool _) rfl h15 rfl) (Qmb rfl rfl (zo (zo (zo (zy (zF (.bool _) rfl rfl rfl) (Qmb rfl rfl (zo (zo (zo (zy (zF (.bool _) rfl rfl rfl) (Qab rfl rfl (TX (zQ (zr ?_)))))))))))))))))
   exact zX () [_] Tryz.results182 ⟨rfl, trivial⟩ (congrArg Value.bool (by first | (unfold rightQ; simp_all; done) | (unfold rightQ; simp_all; omega) | (unfold rightQ; rw [if_pos (by omega)]; simp_all) | (unfold rightQ; rw [if_neg (by omega)]; simp_all <;> omega) | (symm; unfold rightQ; rw [if_neg (by omega)]; exact decide_eq_false (by omega)) | (unfold rightQ; rw [if_neg (by omega), Bool.eq_iff_iff]; simp only [decide_eq_true_eq]; omega))) SB
  have p10 := cL h10
  refine zp rfl rfl h10 rfl (zp rfl rfl h10 rfl (zp rfl rfl h10 rfl (zy (zF (.bool _) rfl h10 rfl) (Qmb rfl rfl (zo (zo (zo (zy (zF (.bool _) rfl rfl rfl) (Qmb rfl rfl (zo (zo (zo (zy (zF (.bool _) rfl rfl rfl) (Qmb rfl rfl (zo (zo (zo ?_)))))))))))))))))
  refine zy (zF (.bool _) rfl rfl rfl) (Qab rfl rfl (TX (zQ (zr ?_))))
  exact zX () [_] Tryz.results182 ⟨rfl, trivial⟩ (congrArg Value.bool (by first | (unfold rightQ; simp_all; done) | (unfold rightQ; simp_all; omega) | (unfold rightQ; rw [if_pos (by omega)]; simp_all) | (unfold rightQ; rw [if_neg (by omega)]; simp_all <;> omega) | (symm; unfold rightQ; rw [if_neg (by omega)]; exact decide_eq_false (by omega)) | (unfold rightQ; rw [if_neg (by omega), Bool.eq_iff_iff]; simp only [decide_eq_true_eq]; omega))) SB
 have p6 := cL h6
 refine zk (zx (zS (T2 (zy (zf 0 rfl rfl) (zy (zl rfl) (zy (Qt_lss rfl rfl) (Qmb rfl rfl (TL_split 33 rfl (fun h33 => ?_) (fun h33 => ?_)))))))))
 ·
  have p33 := cL h33
  refine zp rfl rfl h33 rfl (zp rfl rfl h33 rfl (zp rfl rfl h33 rfl (zy (zT (.bool _) rfl h33 rfl) (Qmb rfl rfl (zo (zo (zo (zy (zT (.bool _) rfl rfl rfl) (Qmb rfl rfl (zo (zo (zo (zy (zT (.bool _) rfl rfl rfl) (TX (T_cond_true rfl rfl (T2 (Qab rfl rfl ?_)))))))))))))))))
  refine TX (zQ (zr ?_))
  exact zX () [_] Tryz.results182 ⟨rfl, trivial⟩ (congrArg Value.bool (by first | (unfold rightQ; simp_all; done) | (unfold rightQ; simp_all; omega) | (unfold rightQ; rw [if_pos (by omega)]; simp_all) | (unfold rightQ; rw [if_neg (by omega)]; simp_all <;> omega) | (symm; unfold rightQ; rw [if_neg (by omega)]; exact decide_eq_false (by omega)) | (unfold rightQ; rw [if_neg (by omega), Bool.eq_iff_iff]; simp only [decide_eq_true_eq]; omega))) SB
 have p33 := cL h33
 refine zt rfl rfl h33 (zy (zf 0 rfl rfl) (zt rfl rfl h33 (zy (zl rfl) (zt rfl rfl h33 (zy (Qt_gtr rfl rfl) (zy (zF (.bool _) rfl h33 rfl) (Qmb rfl rfl (TL_split 38 rfl (fun h38 => ?_) (fun h38 => ?_)))))))))
 ·
  have p38 := cL h38
  refine zp rfl rfl h38 rfl (zp rfl rfl h38 rfl (zp rfl rfl h38 rfl (zy (zT (.bool _) rfl h38 rfl) (Qmb rfl rfl (zo (zo (zo (zy (zT (.bool _) rfl rfl rfl) (TX (T_cond_true rfl rfl (T2 (Qab rfl rfl (TX (zQ (zr ?_)))))))))))))))
  exact zX () [_] Tryz.results182 ⟨rfl, trivial⟩ (congrArg Value.bool (by first | (unfold rightQ; simp_all; done) | (unfold rightQ; simp_all; omega) | (unfold rightQ; rw [if_pos (by omega)]; simp_all) | (unfold rightQ; rw [if_neg (by omega)]; simp_all <;> omega) | (symm; unfold rightQ; rw [if_neg (by omega)]; exact decide_eq_false (by omega)) | (unfold rightQ; rw [if_neg (by omega), Bool.eq_iff_iff]; simp only [decide_eq_true_eq]; omega))) SB
 have p38 := cL h38
 refine zt rfl rfl h38 (zy (zf 1 rfl rfl) (zt rfl rfl h38 (zy (zl rfl) (zt rfl rfl h38 (zy (Qt_lss rfl rfl) (zy (zF (.bool _) rfl h38 rfl) (Qmb rfl rfl (TL_split 43 rfl (fun h43 => ?_) (fun h43 => ?_)))))))))
 ·
  have p43 := cL h43
  refine zp rfl rfl h43 rfl (zp rfl rfl h43 rfl (zp rfl rfl h43 rfl (zy (zT (.bool _) rfl h43 rfl) (TX (T_cond_true rfl rfl (T2 (Qab rfl rfl (TX (zQ (zr ?_))))))))))
  exact zX () [_] Tryz.results182 ⟨rfl, trivial⟩ (congrArg Value.bool (by first | (unfold rightQ; simp_all; done) | (unfold rightQ; simp_all; omega) | (unfold rightQ; rw [if_pos (by omega)]; simp_all) | (unfold rightQ; rw [if_neg (by omega)]; simp_all <;> omega) | (symm; unfold rightQ; rw [if_neg (by omega)]; exact decide_eq_false (by omega)) | (unfold rightQ; rw [if_neg (by omega), Bool.eq_iff_iff]; simp only [decide_eq_true_eq]; omega))) SB
 have p43 := cL h43
 refine zt rfl rfl h43 (zy (zf 1 rfl rfl) (zt rfl rfl h43 (zy (zl rfl) (zt rfl rfl h43 (zy (Qt_gtr rfl rfl) (zy (zF (.bool _) rfl h43 rfl) (TX (zC rfl (fun h47 => ?_) (fun h47 => ?_)))))))))
 ·
  have p47 := cL h47
  refine T2 (Qab rfl rfl (TX (zQ (zr ?_))))
  exact zX () [_] Tryz.results182 ⟨rfl, trivial⟩ (congrArg Value.bool (by first | (unfold rightQ; simp_all; done) | (unfold rightQ; simp_all; omega) | (unfold rightQ; rw [if_pos (by omega)]; simp_all) | (unfold rightQ; rw [if_neg (by omega)]; simp_all <;> omega) | (symm; unfold rightQ; rw [if_neg (by omega)]; exact decide_eq_false (by omega)) | (unfold rightQ; rw [if_neg (by omega), Bool.eq_iff_iff]; simp only [decide_eq_true_eq]; omega))) SB
 have p47 := cL h47
 refine zk (zx (zS (T2 (zy (zf 0 rfl rfl) (zy (zl rfl) (zy (Qt_eql rfl rfl) (Qmb rfl rfl (TL_split 51 rfl (fun h51 => ?_) (fun h51 => ?_)))))))))
 ·
  have p51 := cL h51
  refine zp rfl rfl h51 rfl (zp rfl rfl h51 rfl (zp rfl rfl h51 rfl (zy (zT (.bool _) rfl h51 rfl) (Qmb rfl rfl (zt rfl rfl rfl (zy (zf 2 rfl rfl) (zt rfl rfl rfl (zy (zl rfl) (zt rfl rfl rfl (zy (Qt_neq rfl rfl) (zy (zT (.bool _) rfl rfl rfl) ?_)))))))))))
  refine TX (zC rfl (fun h60 => ?_) (fun h60 => ?_))
  ·
   have p60 := cL h60
   refine T2 (Qab rfl rfl (TX (zQ (zr ?_))))
   exact zX () [_] Tryz.results182 ⟨rfl, trivial⟩ (congrArg Value.bool (by first | (unfold rightQ; simp_all; done) | (unfold rightQ; simp_all; omega) | (unfold rightQ; rw [if_pos (by omega)]; simp_all) | (unfold rightQ; rw [if_neg (by omega)]; simp_all <;> omega) | (symm; unfold rightQ; rw [if_neg (by omega)]; exact decide_eq_false (by omega)) | (unfold rightQ; rw [if_neg (by omega), Bool.eq_iff_iff]; simp only [decide_eq_true_eq]; omega))) SB
  have p60 := cL h60
  refine S4 (zy (zf 0 rfl rfl) (zy (zl rfl) (zy (Qt_eql rfl rfl) (Qmb rfl rfl (TL_split 64 rfl (fun h64 => ?_) (fun h64 => ?_))))))
  ·
   have p64 := cL h64
   refine zp rfl rfl h64 rfl (zp rfl rfl h64 rfl (zp rfl rfl h64 rfl (zy (zT (.bool _) rfl h64 rfl) (Qab rfl rfl (TX (zQ ?_))))))
   exact zX () [_] Tryz.results182 ⟨rfl, trivial⟩ (congrArg Value.bool (by first | (unfold rightQ; simp_all; done) | (unfold rightQ; simp_all; omega) | (unfold rightQ; rw [if_pos (by omega)]; simp_all) | (unfold rightQ; rw [if_neg (by omega)]; simp_all <;> omega) | (symm; unfold rightQ; rw [if_neg (by omega)]; exact decide_eq_false (by omega)) | (unfold rightQ; rw [if_neg (by omega), Bool.eq_iff_iff]; simp only [decide_eq_true_eq]; omega))) SB
  have p64 := cL h64
  refine zt rfl rfl h64 (zy (zf 3 rfl rfl) (zt rfl rfl h64 (zy (zl rfl) (zt rfl rfl h64 (zy (Qt_eql rfl rfl) (zy (zF (.bool _) rfl h64 rfl) (Qab rfl rfl (TX (zQ ?_)))))))))
  exact zX () [_] Tryz.results182 ⟨rfl, trivial⟩ (congrArg Value.bool (by first | (unfold rightQ; simp_all; done) | (unfold rightQ; simp_all; omega) | (unfold rightQ; rw [if_pos (by omega)]; simp_all) | (unfold rightQ; rw [if_neg (by omega)]; simp_all <;> omega) | (symm; unfold rightQ; rw [if_neg (by omega)]; exact decide_eq_false (by omega)) | (unfold rightQ; rw [if_neg (by omega), Bool.eq_iff_iff]; simp only [decide_eq_true_eq]; omega))) SB
 have p51 := cL h51
 refine zt rfl rfl h51 (zy (zf 0 rfl rfl) (zt rfl rfl h51 (zy (zl rfl) (zt rfl rfl h51 (zy (Qt_eql rfl rfl) (zy (zF (.bool _) rfl h51 rfl) (Qmb rfl rfl (TL_split 56 rfl (fun h56 => ?_) (fun h56 => ?_)))))))))
 ·
  have p56 := cL h56
  refine zt rfl rfl h56 (zy (zf 2 rfl rfl) (zt rfl rfl h56 (zy (zl rfl) (zt rfl rfl h56 (zy (Qt_neq rfl rfl) (zy (zT (.bool _) rfl h56 rfl) (TX (zC rfl (fun h60 => ?_) (fun h60 => ?_)))))))))
  ·
   have p60 := cL h60
   refine T2 (Qab rfl rfl (TX (zQ (zr ?_))))
   exact zX () [_] Tryz.results182 ⟨rfl, trivial⟩ (congrArg Value.bool (by first | (unfold rightQ; simp_all; done) | (unfold rightQ; simp_all; omega) | (unfold rightQ; rw [if_pos (by omega)]; simp_all) | (unfold rightQ; rw [if_neg (by omega)]; simp_all <;> omega) | (symm; unfold rightQ; rw [if_neg (by omega)]; exact decide_eq_false (by omega)) | (unfold rightQ; rw [if_neg (by omega), Bool.eq_iff_iff]; simp only [decide_eq_true_eq]; omega))) SB
  have p60 := cL h60
  refine S4 (zy (zf 0 rfl rfl) (zy (zl rfl) (zy (Qt_eql rfl rfl) (Qmb rfl rfl (TL_split 64 rfl (fun h64 => ?_) (fun h64 => ?_))))))
  ·
   have p64 := cL h64
   refine zp rfl rfl h64 rfl (zp rfl rfl h64 rfl (zp rfl rfl h64 rfl (zy (zT (.bool _) rfl h64 rfl) (Qab rfl rfl (TX (zQ ?_))))))
   exact zX () [_] Tryz.results182 ⟨rfl, trivial⟩ (congrArg Value.bool (by first | (unfold rightQ; simp_all; done) | (unfold rightQ; simp_all; omega) | (unfold rightQ; rw [if_pos (by omega)]; simp_all) | (unfold rightQ; rw [if_neg (by omega)]; simp_all <;> omega) | (symm; unfold rightQ; rw [if_neg (by omega)]; exact decide_eq_false (by omega)) | (unfold rightQ; rw [if_neg (by omega), Bool.eq_iff_iff]; simp only [decide_eq_true_eq]; omega))) SB
  have p64 := cL h64
  refine zt rfl rfl h64 (zy (zf 3 rfl rfl) (zt rfl rfl h64 (zy (zl rfl) (zt rfl rfl h64 (zy (Qt_eql rfl rfl) (zy (zF (.bool _) rfl h64 rfl) (Qab rfl rfl (TX (zQ ?_)))))))))
  exact zX () [_] Tryz.results182 ⟨rfl, trivial⟩ (congrArg Value.bool (by first | (unfold rightQ; simp_all; done) | (unfold rightQ; simp_all; omega) | (unfold rightQ; rw [if_pos (by omega)]; simp_all) | (unfold rightQ; rw [if_neg (by omega)]; simp_all <;> omega) | (symm; unfold rightQ; rw [if_neg (by omega)]; exact decide_eq_false (by omega)) | (unfold rightQ; rw [if_neg (by omega), Bool.eq_iff_iff]; simp only [decide_eq_true_eq]; omega))) SB
 have p56 := cL h56
 refine zp rfl rfl h56 rfl (zp rfl rfl h56 rfl (zp rfl rfl h56 rfl (zy (zF (.bool _) rfl h56 rfl) (TX (T_cond_false rfl rfl (S4 (zy (zf 0 rfl rfl) (zy (zl rfl) (zy (Qt_eql rfl rfl) (Qmb rfl rfl (TL_split 64 rfl (fun h64 => ?_) (fun h64 => ?_))))))))))))
 ·
  have p64 := cL h64
  refine zp rfl rfl h64 rfl (zp rfl rfl h64 rfl (zp rfl rfl h64 rfl (zy (zT (.bool _) rfl h64 rfl) (Qab rfl rfl (TX (zQ ?_))))))
  exact zX () [_] Tryz.results182 ⟨rfl, trivial⟩ (congrArg Value.bool (by first | (unfold rightQ; simp_all; done) | (unfold rightQ; simp_all; omega) | (unfold rightQ; rw [if_pos (by omega)]; simp_all) | (unfold rightQ; rw [if_neg (by omega)]; simp_all <;> omega) | (symm; unfold rightQ; rw [if_neg (by omega)]; exact decide_eq_false (by omega)) | (unfold rightQ; rw [if_neg (by omega), Bool.eq_iff_iff]; simp only [decide_eq_true_eq]; omega))) SB
 have p64 := cL h64
 refine zt rfl rfl h64 (zy (zf 3 rfl rfl) (zt rfl rfl h64 (zy (zl rfl) (zt rfl rfl h64 (zy (Qt_eql rfl rfl) (zy (zF (.bool _) rfl h64 rfl) (Qab rfl rfl (TX (zQ ?_)))))))))
 exact zX () [_] Tryz.results182 ⟨rfl, trivial⟩ (congrArg Value.bool (by first | (unfold rightQ; simp_all; done) | (unfold rightQ; simp_all; omega) | (unfold rightQ; rw [if_pos (by omega)]; simp_all) | (unfold rightQ; rw [if_neg (by omega)]; simp_all <;> omega) | (symm; unfold rightQ; rw [if_neg (by omega)]; exact decide_eq_false (by omega)) | (unfold rightQ; rw [if_neg (by omega), Bool.eq_iff_iff]; simp only [decide_eq_true_eq]; omega))) SB
theorem rFormed_c {w0 : World} {H : List SA} {r : ReqV} :
 CT Tryz.prog w0 (H) 159 [.agg r.cells] (α := Unit) (fun _ => .bool (formedQ r.abs)) (fun _ => H) := by
 refine CT_intro Tryz.func159 rfl Tryz.ntmps159 rfl (T2 (ze rfl (Ef_boxN rfl (fun b1 => ?_))))
 refine Qab rfl rfl (T4 (zy (zf 0 rfl rfl) (zy (zl rfl) (zy (Qt_geq rfl rfl) (Qmb rfl rfl (TL_split 6 rfl (fun h6 => ?_) (fun h6 => ?_)))))))
 ·
  have p6 := cL h6
  refine zt rfl rfl h6 (zy (zf 0 rfl rfl) (zt rfl rfl h6 (zy (zl rfl) (zt rfl rfl h6 (zy (Qt_leq rfl rfl) (zy (zT (.bool _) rfl h6 rfl) (Qmb rfl rfl (TL_split 11 rfl (fun h11 => ?_) (fun h11 => ?_)))))))))
  ·
   have p11 := cL h11
   refine zt rfl rfl h11 (zy (zf 1 rfl rfl) (zt rfl rfl h11 (zy (zl rfl) (zt rfl rfl h11 (zy (Qt_geq rfl rfl) (zy (zT (.bool _) rfl h11 rfl) (Qmb rfl rfl (TL_split 16 rfl (fun h16 => ?_) (fun h16 => ?_)))))))))
   ·
    have p16 := cL h16
    refine zt rfl rfl h16 (zy (zf 1 rfl rfl) (zt rfl rfl h16 (zy (zl rfl) (zt rfl rfl h16 (zy (Qt_leq rfl rfl) (zy (zT (.bool _) rfl h16 rfl) (Qmb rfl rfl (TL_split 21 rfl (fun h21 => ?_) (fun h21 => ?_)))))))))
    ·
     have p21 := cL h21
     refine zt rfl rfl h21 (zy (zf 0 rfl rfl) (zt rfl rfl h21 (zy (zl rfl) (zt rfl rfl h21 (zy (zf 2 rfl rfl) (zt rfl rfl h21 (zy (zn rfl rfl) (zt rfl rfl h21 (ze rfl (zc (rRightQ_c (c := r.client) (o := r.op)) rfl (fun x26 => ?_)))))))))))
     refine zy (zT (.bool _) rfl h21 rfl) (Qmb rfl rfl (TL_split 28 rfl (fun h28 => ?_) (fun h28 => ?_)))
     ·
      have p28 := cL h28
      refine zt rfl rfl h28 (zy (zf 6 rfl rfl) (zt rfl rfl h28 (zy (zl rfl) (zt rfl rfl h28 (zy (zL rfl Tryz.underlying33) (zt rfl rfl h28 (zy (Qt_leq rfl rfl) (zy (zT (.bool _) rfl h28 rfl) (Qab rfl rfl (TX (zQ ?_)))))))))))
      exact zX () [_] Tryz.results159 ⟨rfl, trivial⟩ (congrArg Value.bool (by first | (unfold formedQ; rw [Bool.eq_iff_iff]; exact ⟨fun h => decide_eq_true ⟨⟨by show 0 ≤ r.client; omega, by show r.client < 6; omega⟩, ⟨by show 1 ≤ r.seq; omega, by show r.seq ≤ 8; omega⟩, p28, by show r.sig.l.length ≤ 1000; have := of_decide_eq_true h; omega⟩, fun h => decide_eq_true (by have h := (of_decide_eq_true h).2.2.2; have h : r.sig.l.length ≤ 1000 := h; omega)⟩) | (unfold formedQ; simp only [ReqV.abs]; simp_all; done) | (unfold formedQ; simp only [ReqV.abs]; simp_all; omega) | (symm; unfold formedQ; exact decide_eq_false (by simp only [ReqV.abs]; rintro ⟨⟨h1, h2⟩, -⟩; omega)) | (symm; unfold formedQ; exact decide_eq_false (by simp only [ReqV.abs]; rintro ⟨-, ⟨h1, h2⟩, -⟩; omega)) | (symm; unfold formedQ; exact decide_eq_false (by rintro ⟨⟨h1, h2⟩, ⟨h3, h4⟩, h5, h6⟩; dsimp only [ReqV.abs] at h1 h2 h3 h4 h5 h6; first | omega | (simp_all; done) | (simp_all; omega))))) SB
     have p28 := cL h28
     refine zp rfl rfl h28 rfl (zp rfl rfl h28 rfl (zp rfl rfl h28 rfl (zp rfl rfl h28 rfl (zy (zF (.bool _) rfl h28 rfl) (Qab rfl rfl (TX (zQ ?_)))))))
     exact zX () [_] Tryz.results159 ⟨rfl, trivial⟩ (congrArg Value.bool (by first | (unfold formedQ; rw [Bool.eq_iff_iff]; exact ⟨fun h => decide_eq_true ⟨⟨by show 0 ≤ r.client; omega, by show r.client < 6; omega⟩, ⟨by show 1 ≤ r.seq; omega, by show r.seq ≤ 8; omega⟩, p28, by show r.sig.l.length ≤ 1000; have := of_decide_eq_true h; omega⟩, fun h => decide_eq_true (by have h := (of_decide_eq_true h).2.2.2; have h : r.sig.l.length ≤ 1000 := h; omega)⟩) | (unfold formedQ; simp only [ReqV.abs]; simp_all; done) | (unfold formedQ; simp only [ReqV.abs]; simp_all; omega) | (symm; unfold formedQ; exact decide_eq_false (by simp only [ReqV.abs]; rintro ⟨⟨h1, h2⟩, -⟩; omega)) | (symm; unfold formedQ; exact decide_eq_false (by simp only [ReqV.abs]; rintro ⟨-, ⟨h1, h2⟩, -⟩; omega)) | (symm; unfold formedQ; exact decide_eq_false (by rintro ⟨⟨h1, h2⟩, ⟨h3, h4⟩, h5, h6⟩; dsimp only [ReqV.abs] at h1 h2 h3 h4 h5 h6; first | omega | (simp_all; done) | (simp_all; omega))))) SB
    have p21 := cL h21
    refine zp rfl rfl h21 rfl (zp rfl rfl h21 rfl (zp rfl rfl h21 rfl (zp rfl rfl h21 rfl (zp rfl rfl h21 rfl (zy (zF (.bool _) rfl h21 rfl) (Qmb rfl rfl (zo (zo (zo (zo (zy (zF (.bool _) rfl rfl rfl) (Qab rfl rfl (TX (zQ ?_))))))))))))))
    exact zX () [_] Tryz.results159 ⟨rfl, trivial⟩ (congrArg Value.bool (by first | (unfold formedQ; rw [Bool.eq_iff_iff]; exact ⟨fun h => decide_eq_true ⟨⟨by show 0 ≤ r.client; omega, by show r.client < 6; omega⟩, ⟨by show 1 ≤ r.seq; omega, by show r.seq ≤ 8; omega⟩, p28, by show r.sig.l.length ≤ 1000; have := of_decide_eq_true h; omega⟩, fun h => decide_eq_true (by have h := (of_decide_eq_true h).2.2.2; have h : r.sig.l.length ≤ 1000 := h; omega)⟩) | (unfold formedQ; simp only [ReqV.abs]; simp_all; done) | (unfold formedQ; simp only [ReqV.abs]; simp_all; omega) | (symm; unfold formedQ; exact decide_eq_false (by simp only [ReqV.abs]; rintro ⟨⟨h1, h2⟩, -⟩; omega)) | (symm; unfold formedQ; exact decide_eq_false (by simp only [ReqV.abs]; rintro ⟨-, ⟨h1, h2⟩, -⟩; omega)) | (symm; unfold formedQ; exact decide_eq_false (by rintro ⟨⟨h1, h2⟩, ⟨h3, h4⟩, h5, h6⟩; dsimp only [ReqV.abs] at h1 h2 h3 h4 h5 h6; first | omega | (simp_all; done) | (simp_all; omega))))) SB
   have p16 := cL h16
   refine zp rfl rfl h16 rfl (zp rfl rfl h16 rfl (zp rfl rfl h16 rfl (zy (zF (.bool _) rfl h16 rfl) (Qmb rfl rfl (zo (zo (zo (zo (zo (zy (zF (.bool _) rfl rfl rfl) (Qmb rfl rfl (zo (zo (zo (zo (zy (zF (.bool _) rfl rfl rfl) (Qab rfl rfl ?_)))))))))))))))))
   refine TX (zQ ?_)
   exact zX () [_] Tryz.results159 ⟨rfl, trivial⟩ (congrArg Value.bool (by first | (unfold formedQ; rw [Bool.eq_iff_iff]; exact ⟨fun h => decide_eq_true ⟨⟨by show 0 ≤ r.client; omega, by show r.client < 6; omega⟩, ⟨by show 1 ≤ r.seq; omega, by show r.seq ≤ 8; omega⟩, p28, by show r.sig.l.length ≤ 1000; have := of_decide_eq_true h; omega⟩, fun h => decide_eq_true (by have h := (of_decide_eq_true h).2.2.2; have h : r.sig.l.length ≤ 1000 := h; omega)⟩) | (unfold formedQ; simp only [ReqV.abs]; simp_all; done) | (unfold formedQ; simp only [ReqV.abs]; simp_all; omega) | (symm; unfold formedQ; exact decide_eq_false (by simp only [ReqV.abs]; rintro ⟨⟨h1, h2⟩, -⟩; omega)) | (symm; unfold formedQ; exact decide_eq_false (by simp only [ReqV.abs]; rintro ⟨-, ⟨h1, h2⟩, -⟩; omega)) | (symm; unfold formedQ; exact decide_eq_false (by rintro ⟨⟨h1, h2⟩, ⟨h3, h4⟩, h5, h6⟩; dsimp only [ReqV.abs] at h1 h2 h3 h4 h5 h6; first | omega | (simp_all; done) | (simp_all; omega))))) SB
  have p11 := cL h11
  refine zp rfl rfl h11 rfl (zp rfl rfl h11 rfl (zp rfl rfl h11 rfl (zy (zF (.bool _) rfl h11 rfl) (Qmb rfl rfl (zo (zo (zo (zy (zF (.bool _) rfl rfl rfl) (Qmb rfl rfl (zo (zo (zo (zo (zo (zy (zF (.bool _) rfl rfl rfl) (Qmb rfl rfl (zo ?_)))))))))))))))))
  refine zo (zo (zo (zy (zF (.bool _) rfl rfl rfl) (Qab rfl rfl (TX (zQ ?_))))))
  exact zX () [_] Tryz.results159 ⟨rfl, trivial⟩ (congrArg Value.bool (by first | (unfold formedQ; rw [Bool.eq_iff_iff]; exact ⟨fun h => decide_eq_true ⟨⟨by show 0 ≤ r.client; omega, by show r.client < 6; omega⟩, ⟨by show 1 ≤ r.seq; omega, by show r.seq ≤ 8; omega⟩, p28, by show r.sig.l.length ≤ 1000; have := of_decide_eq_true h; omega⟩, fun h => decide_eq_true (by have h := (of_decide_eq_true h).2.2.2; have h : r.sig.l.length ≤ 1000 := h; omega)⟩) | (unfold formedQ; simp only [ReqV.abs]; simp_all; done) | (unfold formedQ; simp only [ReqV.abs]; simp_all; omega) | (symm; unfold formedQ; exact decide_eq_false (by simp only [ReqV.abs]; rintro ⟨⟨h1, h2⟩, -⟩; omega)) | (symm; unfold formedQ; exact decide_eq_false (by simp only [ReqV.abs]; rintro ⟨-, ⟨h1, h2⟩, -⟩; omega)) | (symm; unfold formedQ; exact decide_eq_false (by rintro ⟨⟨h1, h2⟩, ⟨h3, h4⟩, h5, h6⟩; dsimp only [ReqV.abs] at h1 h2 h3 h4 h5 h6; first | omega | (simp_all; done) | (simp_all; omega))))) SB
 have p6 := cL h6
 refine zp rfl rfl h6 rfl (zp rfl rfl h6 rfl (zp rfl rfl h6 rfl (zy (zF (.bool _) rfl h6 rfl) (Qmb rfl rfl (zo (zo (zo (zy (zF (.bool _) rfl rfl rfl) (Qmb rfl rfl (zo (zo (zo (zy (zF (.bool _) rfl rfl rfl) (Qmb rfl rfl (zo (zo (zo ?_)))))))))))))))))
 refine zo (zo (zy (zF (.bool _) rfl rfl rfl) (Qmb rfl rfl (zo (zo (zo (zo (zy (zF (.bool _) rfl rfl rfl) (Qab rfl rfl (TX (zQ ?_)))))))))))
 exact zX () [_] Tryz.results159 ⟨rfl, trivial⟩ (congrArg Value.bool (by first | (unfold formedQ; rw [Bool.eq_iff_iff]; exact ⟨fun h => decide_eq_true ⟨⟨by show 0 ≤ r.client; omega, by show r.client < 6; omega⟩, ⟨by show 1 ≤ r.seq; omega, by show r.seq ≤ 8; omega⟩, p28, by show r.sig.l.length ≤ 1000; have := of_decide_eq_true h; omega⟩, fun h => decide_eq_true (by have h := (of_decide_eq_true h).2.2.2; have h : r.sig.l.length ≤ 1000 := h; omega)⟩) | (unfold formedQ; simp only [ReqV.abs]; simp_all; done) | (unfold formedQ; simp only [ReqV.abs]; simp_all; omega) | (symm; unfold formedQ; exact decide_eq_false (by simp only [ReqV.abs]; rintro ⟨⟨h1, h2⟩, -⟩; omega)) | (symm; unfold formedQ; exact decide_eq_false (by simp only [ReqV.abs]; rintro ⟨-, ⟨h1, h2⟩, -⟩; omega)) | (symm; unfold formedQ; exact decide_eq_false (by rintro ⟨⟨h1, h2⟩, ⟨h3, h4⟩, h5, h6⟩; dsimp only [ReqV.abs] at h1 h2 h3 h4 h5 h6; first | omega | (simp_all; done) | (simp_all; omega))))) SB
theorem rPiece_c {w0 : World} {H : List SA} {a : Option Addr} {l : List UInt8} {c : Nat} [hr : RdB w0 H (.slice a l.length c) l] (hl : l.length ≤ 4294967000) :
 CT Tryz.prog w0 (H) 193 [.slice a l.length c] (α := AC) (fun y => .slice y.a (cutV l).toList.length y.c) (fun y => row (.slice y.a ((cutV l).toList).length y.c) 5 1 (bytesV ((cutV l).toList)) :: H) := by
 refine CT_intro Tryz.func193 rfl Tryz.ntmps193 rfl (T2 (Qas rfl rfl (T4 (Qms rfl rfl (ze rfl (zc (rSum_c hl) rfl (fun x4 => ?_)))))))
 refine ze rfl (zc (rHash_c (h := sha l)) rfl (fun x5 => ?_))
 refine zy (Qt_slice_h 16 rfl rfl (fun w hw => by have := row_le hw; rw [show (sha l).toList.length = 32 from by simp] at this; omega)) (Qas rfl rfl (TX (zQ ?_)))
 have e : (sha l).toList = (cutV l).toList ++ (sha l).toList.drop 16 := by
  rw [show (cutV l).toList = (sha l).toList.take 16 from by unfold cutV; apply List.ext_getElem <;> simp, List.take_append_drop]
 have e16 : (cutV l).toList.length = 16 := by simp
 rw [e16]
 exact zX ⟨x5.a, x5.c⟩ [_] Tryz.results193 ⟨rfl, trivial⟩ rfl (fun w hw => by
  have h1 : St w0 (row (.slice x5.a ((sha l).toList).length x5.c) 5 1 (bytesV ((sha l).toList)) :: H) w := SB w hw
  rw [e, bytesV, List.map_append] at h1
  exact St.rowCut h1 (by simp) (by simp))
end
section
open Go.RowKit Go.Sx
set_option maxRecDepth 100000
/-- Does a request of the same client, that is not older, stand ahead? -/
def pbad (pre : List ReqD) (r : ReqD) : Bool := pre.any fun x => decide (x.client = r.client ∧ r.seq ≤ x.seq)
def okP : List ReqD → List ReqD → Bool
 | _, [] => true
 | pre, r :: rs => formedQ r && !(pbad pre r) && okP (pre ++ [r]) rs
def InvF (f : Int → Int) (pre : List ReqD) : Prop := (∀ x ∈ pre, x.seq ≤ f x.client) ∧ ∀ c, f c = 0 ∨ ∃ x ∈ pre, x.client = c ∧ x.seq = f c
theorem pbad_iff (pre : List ReqD) (r : ReqD) : pbad pre r = true ↔ ∃ x ∈ pre, x.client = r.client ∧ r.seq ≤ x.seq := by
 unfold pbad
 rw [List.any_eq_true]
 constructor
 · rintro ⟨x, h, e⟩; exact ⟨x, h, of_decide_eq_true e⟩
 · rintro ⟨x, h, e⟩; exact ⟨x, h, decide_eq_true e⟩
theorem okB_P : ∀ (ls : List ReqD) (f : Int → Int) (pre : List ReqD), InvF f pre → okB f ls = okP pre ls
 | [], _, _, _ => rfl
 | r :: rs, f, pre, ⟨h1, h2⟩ => by
  show (formedQ r && decide (f r.client < r.seq) && okB (updF f r) rs) = (formedQ r && !(pbad pre r) && okP (pre ++ [r]) rs)
  cases hf : formedQ r with
  | false => rfl
  | true =>
   have hs := formedQ_seq hf
   by_cases hlt : f r.client < r.seq
   · have hb : pbad pre r = false := by
      cases hp : pbad pre r with
      | false => rfl
      | true =>
       obtain ⟨x, hx, e1, e2⟩ := (pbad_iff _ _).1 hp
       have := h1 x hx
       rw [e1] at this
       omega
     rw [decide_eq_true hlt, hb]
     refine congrArg (fun b => true && true && b) (okB_P rs (updF f r) (pre ++ [r]) ⟨?_, ?_⟩)
     · intro x hx
       unfold updF
       rcases List.mem_append.1 hx with hx | hx
       · have := h1 x hx
         by_cases e : x.client = r.client
         · rw [if_pos e]; rw [e] at this; omega
         · rw [if_neg e]; exact this
       · rw [List.mem_singleton.1 hx, if_pos rfl]; exact Int.le_refl _
     · intro c
       unfold updF
       by_cases e : c = r.client
       · rw [if_pos e]
         exact .inr ⟨r, List.mem_append_right _ (List.mem_singleton.2 rfl), e.symm, rfl⟩
       · rw [if_neg e]
         rcases h2 c with h | ⟨x, hx, e1, e2⟩
         · exact .inl h
         · exact .inr ⟨x, List.mem_append_left _ hx, e1, e2⟩
   · have hb : pbad pre r = true := by
      rcases h2 r.client with h | ⟨x, hx, e1, e2⟩
      · omega
      · exact (pbad_iff _ _).2 ⟨x, hx, e1, by omega⟩
     rw [decide_eq_false hlt, hb]
     rfl
theorem fbB_P (ls : List ReqD) : fbB ls = (okP [] ls && decide (1 ≤ ls.length ∧ ls.length ≤ 4)) := by
 unfold fbB
 rw [okB_P ls _ [] ⟨fun x hx => (by cases hx), fun c => .inl rfl⟩]
theorem okP_step (ls : List ReqD) (k : Nat) (h : k < ls.length) : okP (ls.take k) (ls.drop k) = (formedQ ls[k] && !(pbad (ls.take k) ls[k]) && okP (ls.take (k + 1)) (ls.drop (k + 1))) := by
 rw [List.drop_eq_getElem_cons h, List.take_succ_eq_append_getElem h]; rfl
theorem pbad_step (ls : List ReqD) (i : Nat) (hi : i < ls.length) (r : ReqD) : pbad (ls.take (i + 1)) r = (pbad (ls.take i) r || decide (ls[i].client = r.client ∧ r.seq ≤ ls[i].seq)) := by
 unfold pbad
 rw [List.take_succ_eq_append_getElem hi, List.any_append]; simp
theorem pbad_more (ls : List ReqD) (j k : Nat) (hjk : j < k) (hk : k ≤ ls.length) (r : ReqD) (h : (ls[j]'(by omega)).client = r.client ∧ r.seq ≤ (ls[j]'(by omega)).seq) : pbad (ls.take k) r = true :=
 (pbad_iff _ _).2 ⟨ls[j]'(by omega), by rw [List.mem_take_iff_getElem]; exact ⟨j, by omega, rfl⟩, h⟩
/-- The digits as a list. -/
def digL (h : Vector UInt8 32) : List Nat := (List.range 35).map (digN h)
theorem digL_len (h : Vector UInt8 32) : (digL h).length = 35 := by simp [digL]
theorem digL_get (h : Vector UInt8 32) (k : Nat) (hk : k < 35) : (digL h)[k]'(by rw [digL_len]; exact hk) = digN h k := by simp [digL]
theorem and15_mod (a : Nat) : a &&& 15 = a % 16 := Nat.and_two_pow_sub_one_eq_mod a 4
theorem nibH_div (h : Vector UInt8 32) (k : Nat) : nibH h k = (h.toList.getD k 0).toNat / 16 := rfl
theorem nibL_mod (h : Vector UInt8 32) (k : Nat) : nibL h k = (h.toList.getD k 0).toNat % 16 := and15_mod _
theorem digits_step (h : Vector UInt8 32) (k : Nat) (hk : k < 16) : (List.range (2 * k)).map (digN h) ++ [nibH h k, nibL h k] = (List.range (2 * (k + 1))).map (digN h) := by
 rw [show 2 * (k + 1) = 2 * k + 1 + 1 by omega, List.range_succ, List.range_succ, List.map_append, List.map_append, List.append_assoc]
 congr 1
 have e1 : digN h (2 * k) = nibH h k := by unfold digN; rw [if_pos (by omega), if_pos (by omega), show 2 * k / 2 = k from by omega]
 have e2 : digN h (2 * k + 1) = nibL h k := by unfold digN; rw [if_pos (by omega), if_neg (by omega), show (2 * k + 1) / 2 = k from by omega]
 rw [List.map_singleton, List.map_singleton, e1, e2]; rfl
theorem digits_fin (h : Vector UInt8 32) : (List.range 32).map (digN h) ++ [sumD h 16 / 256, sumD h 16 / 16 % 16, sumD h 16 % 16] = digL h := by
 have hl := sumD_le h 16
 unfold digL
 rw [show List.range 35 = List.range 32 ++ [32, 33, 34] from by decide, List.map_append]
 congr 1
 have e1 : digN h 32 = sumD h 16 / 256 := by unfold digN; rw [if_neg (by omega), and15_mod]; show sumD h 16 / 2 ^ 8 % 16 = _; omega
 have e2 : digN h 33 = sumD h 16 / 16 % 16 := by unfold digN; rw [if_neg (by omega), and15_mod]
 have e3 : digN h 34 = sumD h 16 % 16 := by unfold digN; rw [if_neg (by omega), and15_mod]; show sumD h 16 / 2 ^ 0 % 16 = _; omega
 show _ = [digN h 32, digN h 33, digN h 34]
 rw [e1, e2, e3]
end
end Go.Proofs.YtnijomppbgdmnaaGreat
