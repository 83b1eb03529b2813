/- Walks: Concat of byte slices; the reference on messages: bytes, numbers, Put, Long, Copied, Same. -/
import Derived.Test.YtnijomppbgdmnaaGreatSgP
import Derived.Test.YtnijomppbgdmnaaGreatWeRP
import Derived.Test.YtnijomppbgdmnaaGreatSrP
set_option linter.unusedSimpArgs false
set_option linter.unusedVariables false
namespace Go.Proofs.YtnijomppbgdmnaaGreat
section
open Go.RowKit Go.Sx
set_option maxRecDepth 100000
set_option maxHeartbeats 1000000
theorem rJoin_c {w0 : World} {H : List SA} {a a2 : Option Addr} {l l2 : List UInt8} {c c2 : Nat} [hr : RdB w0 H (.slice a l.length c) l] [hr2 : RdB w0 H (.slice a2 l2.length c2) l2] (hs : l.length + l2.length ≤ 4294967296) :
 CT Tryz.prog w0 (H) 135 [.slice a l.length c, .slice a2 l2.length c2] (α := AC) (fun y => .slice y.a (l ++ l2).length y.c) (fun y => row (.slice y.a (l ++ l2).length y.c) 5 1 (bytesV (l ++ l2)) :: H) := by
 refine CT_intro Tryz.func135 rfl Tryz.ntmps135 rfl (T2 (Qas rfl rfl (T4 (Qas rfl rfl (T4 (Qms rfl rfl (Qms rfl rfl (ze rfl (Ef_appendB (sv := .slice _ _ _) (xv := .slice _ _ _) rfl rfl (by simp; omega) rfl (fun a8 c8 => ?_))))))))))
 rw [List.nil_append]
 refine Qas rfl rfl (T4 (Qms rfl rfl (Qms rfl rfl (ze rfl (Ef_appendB (sv := .slice _ _ _) (xv := .slice _ _ _) rfl rfl (by omega) rfl (fun a11 c11 => ?_))))))
 refine Qas rfl rfl (T4 (Qms rfl rfl (Qas rfl rfl (TX (zQ ?_)))))
 exact zX ⟨a11, c11⟩ [_] Tryz.results135 ⟨rfl, trivial⟩ rfl SB
theorem rNumbers_c {w0 : World} {H : List SA} {m : MsgV} :
 CT Tryz.prog w0 (H) 155 [.agg m.cells] (α := Unit) (fun _ => .bool (formedM m.abs)) (fun _ => H) := by
 refine CT_intro Tryz.func155 rfl Tryz.ntmps155 rfl (T2 (ze rfl (Ef_boxN rfl (fun b1 => ?_))))
 refine Qab rfl rfl (T4 (zy (zf 0 rfl rfl) (zy (zl rfl) (zy (Qt_geq rfl rfl) (Qmb rfl rfl (TL_split 6 rfl (fun h6 => ?_) (fun h6 => ?_)))))))
 ·
  have p6 := cL h6
  refine zt rfl rfl h6 (zy (zf 0 rfl rfl) (zt rfl rfl h6 (zy (zl rfl) (zt rfl rfl h6 (zy (Qt_leq rfl rfl) (zy (zT (.bool _) rfl h6 rfl) (Qmb rfl rfl (TL_split 11 rfl (fun h11 => ?_) (fun h11 => ?_)))))))))
  ·
   have p11 := cL h11
   refine zt rfl rfl h11 (zy (zf 1 rfl rfl) (zt rfl rfl h11 (zy (zl rfl) (zt rfl rfl h11 (zy (Qt_geq rfl rfl) (zy (zT (.bool _) rfl h11 rfl) (Qmb rfl rfl (TL_split 16 rfl (fun h16 => ?_) (fun h16 => ?_)))))))))
   ·
    have p16 := cL h16
    refine zt rfl rfl h16 (zy (zf 1 rfl rfl) (zt rfl rfl h16 (zy (zl rfl) (zt rfl rfl h16 (zy (Qt_leq rfl rfl) (zy (zT (.bool _) rfl h16 rfl) (Qmb rfl rfl (TL_split 21 rfl (fun h21 => ?_) (fun h21 => ?_)))))))))
    ·
     have p21 := cL h21
     refine zt rfl rfl h21 (zy (zf 2 rfl rfl) (zt rfl rfl h21 (zy (zl rfl) (zt rfl rfl h21 (zy (Qt_geq rfl rfl) (zy (zT (.bool _) rfl h21 rfl) (Qmb rfl rfl (TL_split 26 rfl (fun h26 => ?_) (fun h26 => ?_)))))))))
     ·
      have p26 := cL h26
      refine zt rfl rfl h26 (zy (zf 2 rfl rfl) (zt rfl rfl h26 (zy (zl rfl) (zt rfl rfl h26 (zy (Qt_leq rfl rfl) (zy (zT (.bool _) rfl h26 rfl) (Qmb rfl rfl (TL_split 31 rfl (fun h31 => ?_) (fun h31 => ?_)))))))))
      ·
       have p31 := cL h31
       refine zt rfl rfl h31 (zy (zf 3 rfl rfl) (zt rfl rfl h31 (zy (zl rfl) (zt rfl rfl h31 (zy (Qt_geq rfl rfl) (zy (zT (.bool _) rfl h31 rfl) (Qmb rfl rfl (TL_split 36 rfl (fun h36 => ?_) (fun h36 => ?_)))))))))
       ·
        have p36 := cL h36
        refine zt rfl rfl h36 (zy (zf 3 rfl rfl) (zt rfl rfl h36 (zy (zl rfl) (zt rfl rfl h36 (zy (Qt_leq rfl rfl) (zy (zT (.bool _) rfl h36 rfl) (Qmb rfl rfl (TL_split 41 rfl (fun h41 => ?_) (fun h41 => ?_)))))))))
        ·
         have p41 := cL h41
         refine zt rfl rfl h41 (zy (zf 4 rfl rfl) (zt rfl rfl h41 (zy (zl rfl) (zt rfl rfl h41 (zy (Qt_geq rfl rfl) (zy (zT (.bool _) rfl h41 rfl) (Qmb rfl rfl (TL_split 46 rfl (fun h46 => ?_) (fun h46 => ?_)))))))))
         ·
          have p46 := cL h46
          refine zt rfl rfl h46 (zy (zf 4 rfl rfl) (zt rfl rfl h46 (zy (zl rfl) (zt rfl rfl h46 (zy (Qt_leq rfl rfl) (zy (zT (.bool _) rfl h46 rfl) (Qab rfl rfl (TX (zQ (zX () [.bool (formedM m.abs)] Tryz.results155 ⟨(congrArg Value.bool ?_), trivial⟩ rfl SB))))))))))
          rw [Bool.eq_iff_iff, formedM_iff]
          simp only [within_iff, within_not, MsgV.abs, decide_eq_true_eq, decide_eq_false_iff_not, Bool.not_eq_false, Bool.not_eq_true, Bool.false_eq_true, false_iff, not_and] at *
          first | omega | (constructor <;> (intros; omega))
         have p46 := cL h46
         refine zp rfl rfl h46 rfl (zp rfl rfl h46 rfl (zp rfl rfl h46 rfl (zy (zF (.bool _) rfl h46 rfl) (Qab rfl rfl (TX (zQ (zX () [.bool (formedM m.abs)] Tryz.results155 ⟨(congrArg Value.bool ?_), trivial⟩ rfl SB)))))))
         rw [Bool.eq_iff_iff, formedM_iff]
         simp only [within_iff, within_not, MsgV.abs, decide_eq_true_eq, decide_eq_false_iff_not, Bool.not_eq_false, Bool.not_eq_true, Bool.false_eq_true, false_iff, not_and] at *
         first | omega | (constructor <;> (intros; omega))
        have p41 := cL h41
        refine zp rfl rfl h41 rfl (zp rfl rfl h41 rfl (zp rfl rfl h41 rfl (zy (zF (.bool _) rfl h41 rfl) (Qmb rfl rfl (zo (zo (zo (zy (zF (.bool _) rfl rfl rfl) (Qab rfl rfl (TX (zQ (zX () [.bool (formedM m.abs)] Tryz.results155 ⟨(congrArg Value.bool ?_), trivial⟩ rfl SB))))))))))))
        rw [Bool.eq_iff_iff, formedM_iff]
        simp only [within_iff, within_not, MsgV.abs, decide_eq_true_eq, decide_eq_false_iff_not, Bool.not_eq_false, Bool.not_eq_true, Bool.false_eq_true, false_iff, not_and] at *
        first | omega | (constructor <;> (intros; omega))
       have p36 := cL h36
       refine zp rfl rfl h36 rfl (zp rfl rfl h36 rfl (zp rfl rfl h36 rfl (zy (zF (.bool _) rfl h36 rfl) (Qmb rfl rfl (zo (zo (zo (zy (zF (.bool _) rfl rfl rfl) (Qmb rfl rfl (zo (zo (zo (zy (zF (.bool _) rfl rfl rfl) (Qab rfl rfl (TX (zQ ?_))))))))))))))))
       refine zX () [.bool (formedM m.abs)] Tryz.results155 ⟨(congrArg Value.bool ?_), trivial⟩ rfl SB
       rw [Bool.eq_iff_iff, formedM_iff]
       simp only [within_iff, within_not, MsgV.abs, decide_eq_true_eq, decide_eq_false_iff_not, Bool.not_eq_false, Bool.not_eq_true, Bool.false_eq_true, false_iff, not_and] at *
       first | omega | (constructor <;> (intros; omega))
      have p31 := cL h31
      refine zp rfl rfl h31 rfl (zp rfl rfl h31 rfl (zp rfl rfl h31 rfl (zy (zF (.bool _) rfl h31 rfl) (Qmb rfl rfl (zo (zo (zo (zy (zF (.bool _) rfl rfl rfl) (Qmb rfl rfl (zo (zo (zo (zy (zF (.bool _) rfl rfl rfl) (Qmb rfl rfl (zo (zo (zo ?_)))))))))))))))))
      refine zy (zF (.bool _) rfl rfl rfl) (Qab rfl rfl (TX (zQ (zX () [.bool (formedM m.abs)] Tryz.results155 ⟨(congrArg Value.bool ?_), trivial⟩ rfl SB))))
      rw [Bool.eq_iff_iff, formedM_iff]
      simp only [within_iff, within_not, MsgV.abs, decide_eq_true_eq, decide_eq_false_iff_not, Bool.not_eq_false, Bool.not_eq_true, Bool.false_eq_true, false_iff, not_and] at *
      first | omega | (constructor <;> (intros; omega))
     have p26 := cL h26
     refine zp rfl rfl h26 rfl (zp rfl rfl h26 rfl (zp rfl rfl h26 rfl (zy (zF (.bool _) rfl h26 rfl) (Qmb rfl rfl (zo (zo (zo (zy (zF (.bool _) rfl rfl rfl) (Qmb rfl rfl (zo (zo (zo (zy (zF (.bool _) rfl rfl rfl) (Qmb rfl rfl (zo (zo (zo ?_)))))))))))))))))
     refine zy (zF (.bool _) rfl rfl rfl) (Qmb rfl rfl (zo (zo (zo (zy (zF (.bool _) rfl rfl rfl) (Qab rfl rfl (TX (zQ (zX () [.bool (formedM m.abs)] Tryz.results155 ⟨(congrArg Value.bool ?_), trivial⟩ rfl SB)))))))))
     rw [Bool.eq_iff_iff, formedM_iff]
     simp only [within_iff, within_not, MsgV.abs, decide_eq_true_eq, decide_eq_false_iff_not, Bool.not_eq_false, Bool.not_eq_true, Bool.false_eq_true, false_iff, not_and] at *
     first | omega | (constructor <;> (intros; omega))
    have p21 := cL h21
    refine zp rfl rfl h21 rfl (zp rfl rfl h21 rfl (zp rfl rfl h21 rfl (zy (zF (.bool _) rfl h21 rfl) (Qmb rfl rfl (zo (zo (zo (zy (zF (.bool _) rfl rfl rfl) (Qmb rfl rfl (zo (zo (zo (zy (zF (.bool _) rfl rfl rfl) (Qmb rfl rfl (zo (zo (zo ?_)))))))))))))))))
    refine zy (zF (.bool _) rfl rfl rfl) (Qmb rfl rfl (zo (zo (zo (zy (zF (.bool _) rfl rfl rfl) (Qmb rfl rfl (zo (zo (zo (zy (zF (.bool _) rfl rfl rfl) (Qab rfl rfl (TX (zQ ?_)))))))))))))
    refine zX () [.bool (formedM m.abs)] Tryz.results155 ⟨(congrArg Value.bool ?_), trivial⟩ rfl SB
    rw [Bool.eq_iff_iff, formedM_iff]
    simp only [within_iff, within_not, MsgV.abs, decide_eq_true_eq, decide_eq_false_iff_not, Bool.not_eq_false, Bool.not_eq_true, Bool.false_eq_true, false_iff, not_and] at *
    first | omega | (constructor <;> (intros; omega))
   have p16 := cL h16
   refine zp rfl rfl h16 rfl (zp rfl rfl h16 rfl (zp rfl rfl h16 rfl (zy (zF (.bool _) rfl h16 rfl) (Qmb rfl rfl (zo (zo (zo (zy (zF (.bool _) rfl rfl rfl) (Qmb rfl rfl (zo (zo (zo (zy (zF (.bool _) rfl rfl rfl) (Qmb rfl rfl (zo (zo (zo ?_)))))))))))))))))
   refine zy (zF (.bool _) rfl rfl rfl) (Qmb rfl rfl (zo (zo (zo (zy (zF (.bool _) rfl rfl rfl) (Qmb rfl rfl (zo (zo (zo (zy (zF (.bool _) rfl rfl rfl) (Qmb rfl rfl (zo (zo (zo (zy (zF (.bool _) rfl rfl rfl) (Qab rfl rfl (TX (zQ ?_))))))))))))))))))
   refine zX () [.bool (formedM m.abs)] Tryz.results155 ⟨(congrArg Value.bool ?_), trivial⟩ rfl SB
   rw [Bool.eq_iff_iff, formedM_iff]
   simp only [within_iff, within_not, MsgV.abs, decide_eq_true_eq, decide_eq_false_iff_not, Bool.not_eq_false, Bool.not_eq_true, Bool.false_eq_true, false_iff, not_and] at *
   first | omega | (constructor <;> (intros; omega))
  have p11 := cL h11
  refine zp rfl rfl h11 rfl (zp rfl rfl h11 rfl (zp rfl rfl h11 rfl (zy (zF (.bool _) rfl h11 rfl) (Qmb rfl rfl (zo (zo (zo (zy (zF (.bool _) rfl rfl rfl) (Qmb rfl rfl (zo (zo (zo (zy (zF (.bool _) rfl rfl rfl) (Qmb rfl rfl (zo (zo (zo ?_)))))))))))))))))
  refine zy (zF (.bool _) rfl rfl rfl) (Qmb rfl rfl (zo (zo (zo (zy (zF (.bool _) rfl rfl rfl) (Qmb rfl rfl (zo (zo (zo (zy (zF (.bool _) rfl rfl rfl) (Qmb rfl rfl (zo (zo (zo (zy (zF (.bool _) rfl rfl rfl) (Qmb rfl rfl (zo ?_)))))))))))))))))
  refine zo (zo (zy (zF (.bool _) rfl rfl rfl) (Qab rfl rfl (TX (zQ (zX () [.bool (formedM m.abs)] Tryz.results155 ⟨(congrArg Value.bool ?_), trivial⟩ rfl SB))))))
  rw [Bool.eq_iff_iff, formedM_iff]
  simp only [within_iff, within_not, MsgV.abs, decide_eq_true_eq, decide_eq_false_iff_not, Bool.not_eq_false, Bool.not_eq_true, Bool.false_eq_true, false_iff, not_and] at *
  first | omega | (constructor <;> (intros; omega))
 have p6 := cL h6
 refine zp rfl rfl h6 rfl (zp rfl rfl h6 rfl (zp rfl rfl h6 rfl (zy (zF (.bool _) rfl h6 rfl) (Qmb rfl rfl (zo (zo (zo (zy (zF (.bool _) rfl rfl rfl) (Qmb rfl rfl (zo (zo (zo (zy (zF (.bool _) rfl rfl rfl) (Qmb rfl rfl (zo (zo (zo ?_)))))))))))))))))
 refine zy (zF (.bool _) rfl rfl rfl) (Qmb rfl rfl (zo (zo (zo (zy (zF (.bool _) rfl rfl rfl) (Qmb rfl rfl (zo (zo (zo (zy (zF (.bool _) rfl rfl rfl) (Qmb rfl rfl (zo (zo (zo (zy (zF (.bool _) rfl rfl rfl) (Qmb rfl rfl (zo ?_)))))))))))))))))
 refine zo (zo (zy (zF (.bool _) rfl rfl rfl) (Qmb rfl rfl (zo (zo (zo (zy (zF (.bool _) rfl rfl rfl) (Qab rfl rfl (TX (zQ (zX () [.bool (formedM m.abs)] Tryz.results155 ⟨(congrArg Value.bool ?_), trivial⟩ rfl SB)))))))))))
 rw [Bool.eq_iff_iff, formedM_iff]
 simp only [within_iff, within_not, MsgV.abs, decide_eq_true_eq, decide_eq_false_iff_not, Bool.not_eq_false, Bool.not_eq_true, Bool.false_eq_true, false_iff, not_and] at *
 first | omega | (constructor <;> (intros; omega))
end
section
open Go.RowKit Go.Sx
set_option maxRecDepth 100000
theorem MsgD.ext_iff' (x y : MsgD) : x = y ↔ x.kind = y.kind ∧ x.frm = y.frm ∧ x.view = y.view ∧ x.reg = y.reg ∧ x.slot = y.slot ∧ x.hash = y.hash ∧ x.body = y.body ∧ x.parts = y.parts := by cases x; cases y; simp
end
section
open Go.RowKit Go.Sx
set_option maxRecDepth 100000
set_option maxHeartbeats 1000000
def popS : ByteArray := ByteArray.mk (List.toArray (List.append (List.append [0, 1, 1, 2, 1, 2, 2, 3, 1, 2, 2, 3, 2, 3, 3, 4, 1, 2, 2, 3, 2, 3, 3, 4, 2, 3, 3, 4, 3, 4, 4, 5, 1, 2, 2, 3, 2, 3, 3, 4, 2, 3, 3, 4, 3, 4, 4, 5, 2, 3, 3, 4, 3, 4, 4, 5, 3, 4, 4, 5, 4, 5, 5, 6] [1, 2, 2, 3, 2, 3, 3, 4, 2, 3, 3, 4, 3, 4, 4, 5, 2, 3, 3, 4, 3, 4, 4, 5, 3, 4, 4, 5, 4, 5, 5, 6, 2, 3, 3, 4, 3, 4, 4, 5, 3, 4, 4, 5, 4, 5, 5, 6, 3, 4, 4, 5, 4, 5, 5, 6, 4, 5, 5, 6, 5, 6, 6, 7]) (List.append [1, 2, 2, 3, 2, 3, 3, 4, 2, 3, 3, 4, 3, 4, 4, 5, 2, 3, 3, 4, 3, 4, 4, 5, 3, 4, 4, 5, 4, 5, 5, 6, 2, 3, 3, 4, 3, 4, 4, 5, 3, 4, 4, 5, 4, 5, 5, 6, 3, 4, 4, 5, 4, 5, 5, 6, 4, 5, 5, 6, 5, 6, 6, 7] [2, 3, 3, 4, 3, 4, 4, 5, 3, 4, 4, 5, 4, 5, 5, 6, 3, 4, 4, 5, 4, 5, 5, 6, 4, 5, 5, 6, 5, 6, 6, 7, 3, 4, 4, 5, 4, 5, 5, 6, 4, 5, 5, 6, 5, 6, 6, 7, 4, 5, 5, 6, 5, 6, 6, 7, 5, 6, 6, 7, 6, 7, 7, 8])))
def popB (i : Nat) : Nat := (popS.data.getD i 0).toNat
theorem popS_get : ∀ i < 256, popS[i]? = some (UInt8.ofNat (popB i)) := by decide +kernel
theorem popB_le : ∀ i < 256, popB i ≤ 8 := by decide +kernel
def ones16 (n : Nat) : Nat := popB (n / 2 ^ 8) + popB (n % 256)
theorem ones16_le {n : Nat} (h : n < 65536) : ones16 n ≤ 16 := by
  have h1 := popB_le (n / 2 ^ 8) (by omega)
  have h2 := popB_le (n % 256) (by omega)
  unfold ones16; omega
theorem popU {i : Nat} (h : i < 256) : ((UInt8.ofNat (popB i)).toNat : Int) = (popB i : Int) := by
  have := popB_le i h
  simp; omega
theorem and255 (c : Nat) : c &&& 255 = c % 256 := Nat.and_two_pow_sub_one_eq_mod c 8
def rightV (num : Int) (mk : Nat) : Bool := decide (0 ≤ num ∧ num ≤ 60 ∧ 4 ≤ ones16 mk ∧ ones16 mk ≤ 7)
def sizeV (num : Int) (mk : Nat) : Nat := if rightV num mk = true then ones16 mk else 0
def faultsV (num : Int) (mk : Nat) : Nat := (sizeV num mk - 1) / 3
def someV (num : Int) (mk : Nat) : Nat := if sizeV num mk = 0 then 0 else faultsV num mk + 1
def hasV (mk : Nat) (i : Int) : Bool := decide (0 ≤ i ∧ i < 16 ∧ mk / 2 ^ i.toNat % 2 = 1)
theorem sizeV_le {num : Int} {mk : Nat} (h : mk < 65536) : sizeV num mk ≤ 16 := by
  have := ones16_le h
  unfold sizeV; split <;> omega
theorem size_zero : sizeV 0 0 = 0 := by decide +kernel
attribute [local irreducible] popB
theorem ones_c {w0 : World} {H : List SA} {n : Nat} (hn : n < 65536) :
    CT Tryz.prog w0 (H) 49 [.int .u16 (n : Int)] (α := Unit) (fun _ => .int .i64 (ones16 n : Int)) (fun _ => H) := by
  refine CT_intro Tryz.func49 rfl Tryz.ntmps49 rfl (T2 (Qai rfl rfl (TX (zS (zD _ [(0, true), (1, true), (2, true), (3, true), (4, true), (5, true), (6, true), (7, true), (8, true)] (fun _ hh => hh) (fun hns0 => ?_))))))
  refine zd hns0 rfl (zm (.int .u16 _) rfl) rfl (zd hns0 rfl (Qt_shrN 8 rfl (by exact rfl) (by decide)) rfl (zd hns0 rfl (Qt_index_str (UInt8.ofNat (popB (n / 2 ^ 8))) (s := popS) rfl rfl Tryz.underlying9 (popS_get _ (by omega))) rfl ?_))
  rw [popU (show n / 2 ^ 8 < 256 by omega)]
  have hp1 := popB_le (n / 2 ^ 8) (by omega)
  refine zd hns0 rfl (zm (.int .u16 _) rfl) rfl (zd hns0 rfl (Qt_andN (b := 255) rfl rfl rfl (by show _ < 2 ^ 16; omega) (by decide)) rfl ?_)
  rw [and255]
  refine zd hns0 rfl (Qt_index_str (UInt8.ofNat (popB (n % 256))) (s := popS) rfl rfl Tryz.underlying9 (popS_get _ (by omega))) rfl ?_
  rw [popU (show n % 256 < 256 by omega)]
  have hp2 := popB_le (n % 256) (by omega)
  refine zd hns0 rfl (Qt_addw rfl rfl) rfl ?_
  rw [show IntKind.u8.wrap ((popB (n / 2 ^ 8) : Int) + (popB (n % 256) : Int)) = ((popB (n / 2 ^ 8) + popB (n % 256) : Nat) : Int) from by rw [← Int.natCast_add]; exact wrap_nat .u8 rfl (by show _ < 2 ^ 8; omega)]
  refine zd hns0 rfl (Qt_conv_i64 rfl rfl Tryz.underlying3 (by omega) (by omega)) rfl (zd hns0 rfl (za (.int .i64 _) rfl) rfl (DL_nil (zx (zQ ?_))))
  exact zX () [_] Tryz.results49 ⟨rfl, trivial⟩ rfl SB
theorem count_v {w0 : World} {H : List SA} {num : Int} {mk : Nat} (hmk : mk < 65536) :
    CT Tryz.prog w0 (H) 99 [.agg (ViewV.mk num (mk : Int)).cells] (α := Unit) (fun _ => .int .i64 (ones16 mk : Int)) (fun _ => H) := by
  refine CT_intro Tryz.func99 rfl Tryz.ntmps99 rfl (T2 (ze rfl (Ef_boxN rfl (fun b1 => ?_))))
  refine Qai rfl rfl (T4 (zy (zf 1 rfl rfl) (zy (zl rfl) (ze rfl (zc (ones_c hmk) rfl (fun x5 => ?_))))))
  refine Qai rfl rfl (TX (zQ ?_))
  exact zX () [_] Tryz.results99 ⟨rfl, trivial⟩ (rfl) SB
theorem right_v {w0 : World} {H : List SA} {num : Int} {mk : Nat} (hmk : mk < 65536) :
    CT Tryz.prog w0 (H) 98 [.agg (ViewV.mk num (mk : Int)).cells] (α := Unit) (fun _ => .bool (rightV num mk)) (fun _ => H) := by
  refine CT_intro Tryz.func98 rfl Tryz.ntmps98 rfl (T2 (ze rfl (Ef_boxN rfl (fun b1 => ?_))))
  refine Qab rfl rfl (T4 (zy (zn rfl rfl) (ze rfl (zc (count_v hmk) rfl (fun x5 => ?_)))))
  refine Qai rfl rfl (T4 (zy (zf 0 rfl rfl) (zy (zl rfl) (zy (Qt_geq rfl rfl) (Qmb rfl rfl (TL_split 9 rfl (fun h9 => ?_) (fun h9 => ?_)))))))
  ·
    have p9 := cL h9
    refine zt rfl rfl h9 (zy (zf 0 rfl rfl) (zt rfl rfl h9 (zy (zl rfl) (zt rfl rfl h9 (zy (Qt_leq rfl rfl) (zy (zT (.bool _) rfl h9 rfl) (Qmb rfl rfl (TL_split 14 rfl (fun h14 => ?_) (fun h14 => ?_)))))))))
    ·
      have p14 := cL h14
      refine zt rfl rfl h14 (Qmi rfl rfl (zt rfl rfl h14 (zy (Qt_geq rfl rfl) (zy (zT (.bool _) rfl h14 rfl) (Qmb rfl rfl (TL_split 18 rfl (fun h18 => ?_) (fun h18 => ?_)))))))
      ·
        have p18 := cL h18
        refine zt rfl rfl h18 (Qmi rfl rfl (zt rfl rfl h18 (zy (Qt_leq rfl rfl) (zy (zT (.bool _) rfl h18 rfl) (Qab rfl rfl (TX (zQ (zX () [.bool (rightV num mk)] Tryz.results98 ⟨(congrArg Value.bool ?_), trivial⟩ rfl SB))))))))
        rw [Bool.eq_iff_iff]
        simp only [rightV, decide_eq_true_eq, Bool.false_eq_true, false_iff]
        omega
      have p18 := cL h18
      refine zp rfl rfl h18 rfl (zp rfl rfl h18 rfl (zy (zF (.bool _) rfl h18 rfl) (Qab rfl rfl (TX (zQ (zX () [.bool (rightV num mk)] Tryz.results98 ⟨(congrArg Value.bool ?_), trivial⟩ rfl SB))))))
      rw [Bool.eq_iff_iff]
      simp only [rightV, decide_eq_true_eq, Bool.false_eq_true, false_iff]
      omega
    have p14 := cL h14
    refine zp rfl rfl h14 rfl (zp rfl rfl h14 rfl (zy (zF (.bool _) rfl h14 rfl) (Qmb rfl rfl (zo (zo (zy (zF (.bool _) rfl rfl rfl) (Qab rfl rfl (TX (zQ (zX () [.bool (rightV num mk)] Tryz.results98 ⟨(congrArg Value.bool ?_), trivial⟩ rfl SB))))))))))
    rw [Bool.eq_iff_iff]
    simp only [rightV, decide_eq_true_eq, Bool.false_eq_true, false_iff]
    omega
  have p9 := cL h9
  refine zp rfl rfl h9 rfl (zp rfl rfl h9 rfl (zp rfl rfl h9 rfl (zy (zF (.bool _) rfl h9 rfl) (Qmb rfl rfl (zo (zo (zy (zF (.bool _) rfl rfl rfl) (Qmb rfl rfl (zo (zo (zy (zF (.bool _) rfl rfl rfl) (Qab rfl rfl (TX (zQ ?_))))))))))))))
  refine zX () [.bool (rightV num mk)] Tryz.results98 ⟨(congrArg Value.bool ?_), trivial⟩ rfl SB
  rw [Bool.eq_iff_iff]
  simp only [rightV, decide_eq_true_eq, Bool.false_eq_true, false_iff]
  omega
theorem has_v {w0 : World} {H : List SA} {num : Int} {mk : Nat} (hmk : mk < 65536) {i : Int} :
    CT Tryz.prog w0 (H) 59 [.agg (ViewV.mk num (mk : Int)).cells, .int .i64 i] (α := Unit) (fun _ => .bool (hasV mk i)) (fun _ => H) := by
  refine CT_intro Tryz.func59 rfl Tryz.ntmps59 rfl (T2 (ze rfl (Ef_boxN rfl (fun b2 => ?_))))
  refine Qab rfl rfl (T4 (Qmi rfl rfl (zy (Qt_geq rfl rfl) (Qmb rfl rfl (TL_split 7 rfl (fun h7 => ?_) (fun h7 => ?_))))))
  ·
    have p7 := cL h7
    refine zt rfl rfl h7 (Qmi rfl rfl (zt rfl rfl h7 (zy (Qt_lss rfl rfl) (zy (zT (.bool _) rfl h7 rfl) (Qmb rfl rfl (TL_split 11 rfl (fun h11 => ?_) (fun h11 => ?_)))))))
    ·
      have p11 := cL h11
      obtain ⟨s, rfl⟩ := Int.eq_ofNat_of_zero_le (show 0 ≤ i by first | omega | (simp_all; done) | (simp_all; omega))
      have hs16 : s < 16 := by first | omega | (simp_all; done) | (simp_all; omega)
      refine zt rfl rfl h11 (zy (zf 1 rfl rfl) (zt rfl rfl h11 (zy (zl rfl) (zt rfl rfl h11 (Qmi rfl rfl (zt rfl rfl h11 (zy (Qt_shrN s rfl rfl (by show s ≤ 16; omega)) (zt rfl rfl h11 (zy (Qt_andN (b := 1) rfl rfl rfl (by have := Nat.div_le_self mk (2 ^ s); show _ < 2 ^ 16; omega) (by decide)) ?_)))))))))
      rw [Nat.and_one_is_mod]
      refine zt rfl rfl h11 (zy (Qt_neq rfl rfl) (zy (zT (.bool _) rfl h11 rfl) (Qab rfl rfl (TX (zQ (zX () [.bool (hasV mk _)] Tryz.results59 ⟨(congrArg Value.bool ?_), trivial⟩ rfl SB))))))
      rw [Bool.eq_iff_iff]
      first
        | (have hq := Nat.mod_lt (mk / 2 ^ s) (show 0 < 2 by decide); simp only [hasV, Int.toNat_natCast, decide_eq_true_eq, ne_eq, Bool.false_eq_true, false_iff]; generalize mk / 2 ^ s % 2 = q at *; omega)
        | (simp only [hasV, decide_eq_true_eq, Bool.false_eq_true, false_iff]; omega)
    have p11 := cL h11
    refine zp rfl rfl h11 rfl (zp rfl rfl h11 rfl (zp rfl rfl h11 rfl (zp rfl rfl h11 rfl (zp rfl rfl h11 rfl (zp rfl rfl h11 rfl (zy (zF (.bool _) rfl h11 rfl) (Qab rfl rfl (TX (zQ (zX () [.bool (hasV mk _)] Tryz.results59 ⟨(congrArg Value.bool ?_), trivial⟩ rfl SB))))))))))
    rw [Bool.eq_iff_iff]
    first
      | (have hq := Nat.mod_lt (mk / 2 ^ s) (show 0 < 2 by decide); simp only [hasV, Int.toNat_natCast, decide_eq_true_eq, ne_eq, Bool.false_eq_true, false_iff]; generalize mk / 2 ^ s % 2 = q at *; omega)
      | (simp only [hasV, decide_eq_true_eq, Bool.false_eq_true, false_iff]; omega)
  have p7 := cL h7
  refine zp rfl rfl h7 rfl (zp rfl rfl h7 rfl (zy (zF (.bool _) rfl h7 rfl) (Qmb rfl rfl (zo (zo (zo (zo (zo (zo (zy (zF (.bool _) rfl rfl rfl) (Qab rfl rfl (TX (zQ (zX () [.bool (hasV mk _)] Tryz.results59 ⟨?_, trivial⟩ rfl SB))))))))))))))
  refine congrArg Value.bool ?_
  rw [Bool.eq_iff_iff]
  first
    | (have hq := Nat.mod_lt (mk / 2 ^ s) (show 0 < 2 by decide); simp only [hasV, Int.toNat_natCast, decide_eq_true_eq, ne_eq, Bool.false_eq_true, false_iff]; generalize mk / 2 ^ s % 2 = q at *; omega)
    | (simp only [hasV, decide_eq_true_eq, Bool.false_eq_true, false_iff]; omega)
theorem size_v {w0 : World} {H : List SA} {num : Int} {mk : Nat} (hmk : mk < 65536) :
    CT Tryz.prog w0 (H) 56 [.agg (ViewV.mk num (mk : Int)).cells] (α := Unit) (fun _ => .int .i64 (sizeV num mk : Int)) (fun _ => H) := by
  refine CT_intro Tryz.func56 rfl Tryz.ntmps56 rfl (T2 (ze rfl (Ef_boxN rfl (fun b1 => ?_))))
  refine Qai rfl rfl (TX (zS (T2 (zy (zn rfl rfl) (zy (zw [] rfl) (zy (Qt_agg_eql rfl rfl (by kernel_rfl)) (Qmb rfl rfl (TL_split 6 rfl (fun h6 => ?_) (fun h6 => ?_)))))))))
  ·
    have p6 := cL h6
    refine zp rfl rfl h6 rfl (zp rfl rfl h6 rfl (zp rfl rfl h6 rfl (zy (zT (.bool _) rfl h6 rfl) (TX (T_cond_true rfl rfl (T2 (Qai rfl rfl (TX (zQ (zr ?_))))))))))
    have e : sizeV num mk = 0 := by
      first
        | (have hz := p6; rw [ViewV.ext_iff'] at hz; obtain ⟨h1, h2⟩ := hz; simp only [ViewV.zero] at h1 h2; have h3 : mk = 0 := by omega
           subst h3; subst h1; exact size_zero)
        | (unfold sizeV; rw [if_neg]; simp_all)
    exact zX () [_] Tryz.results56 ⟨rfl, trivial⟩ (by rw [e]; rfl) SB
  have p6 := cL h6
  refine zt rfl rfl h6 (zy (zn rfl rfl) (zt rfl rfl h6 (ze rfl (zc (right_v hmk) rfl (fun x8 => ?_)))))
  refine zt rfl rfl h6 (zy (Qt_not rfl) (zy (zF (.bool _) rfl h6 rfl) (TX (zC rfl (fun h10 => ?_) (fun h10 => ?_)))))
  ·
    have p10 := cL h10
    refine T2 (Qai rfl rfl (TX (zQ (zr ?_))))
    have e : sizeV num mk = 0 ∨ rightV num mk = true := by by_cases hq : rightV num mk = true; exact .inr hq; exact .inl (if_neg hq)
    first
      | (have e1 : sizeV num mk = 0 := by (unfold sizeV; rw [if_neg]; simp_all)
         exact zX () [_] Tryz.results56 ⟨rfl, trivial⟩ (by rw [e1]; rfl) SB)
      | (have e2 : sizeV num mk = ones16 mk := if_pos (by simp_all)
         exact zX () [_] Tryz.results56 ⟨rfl, trivial⟩ (by rw [e2]; rfl) SB)
  have p10 := cL h10
  refine S4 (zy (zn rfl rfl) (ze rfl (zc (count_v hmk) rfl (fun x12 => ?_))))
  refine Qai rfl rfl (TX (zQ ?_))
  have e : sizeV num mk = 0 ∨ rightV num mk = true := by by_cases hq : rightV num mk = true; exact .inr hq; exact .inl (if_neg hq)
  first
    | (have e1 : sizeV num mk = 0 := by (unfold sizeV; rw [if_neg]; simp_all)
       exact zX () [_] Tryz.results56 ⟨rfl, trivial⟩ (by rw [e1]; rfl) SB)
    | (have e2 : sizeV num mk = ones16 mk := if_pos (by simp_all)
       exact zX () [_] Tryz.results56 ⟨rfl, trivial⟩ (by rw [e2]; rfl) SB)
theorem faults_v {w0 : World} {H : List SA} {num : Int} {mk : Nat} (hmk : mk < 65536) :
    CT Tryz.prog w0 (H) 57 [.agg (ViewV.mk num (mk : Int)).cells] (α := Unit) (fun _ => .int .i64 (faultsV num mk : Int)) (fun _ => H) := by
  refine CT_intro Tryz.func57 rfl Tryz.ntmps57 rfl (T2 (ze rfl (Ef_boxN rfl (fun b1 => ?_))))
  refine Qai rfl rfl (T4 (zy (zn rfl rfl) (ze rfl (zc (size_v hmk) rfl (fun x4 => ?_)))))
  have hsz := sizeV_le (num := num) hmk
  refine zy (zh rfl rfl) (zy (Qt_max rfl rfl) (zy (Qt_quo rfl rfl (by omega)) ?_))
  rw [show IntKind.i64.wrap ((if (0 : Int) > (sizeV num mk : Int) - 1 then (0 : Int) else (sizeV num mk : Int) - 1).tdiv 3) = (faultsV num mk : Int) from by unfold faultsV; generalize sizeV num mk = s at *; (rcases (by omega : s = 0 ∨ s = 1 ∨ s = 2 ∨ s = 3 ∨ s = 4 ∨ s = 5 ∨ s = 6 ∨ s = 7 ∨ s = 8 ∨ s = 9 ∨ s = 10 ∨ s = 11 ∨ s = 12 ∨ s = 13 ∨ s = 14 ∨ s = 15 ∨ s = 16) with rfl | rfl | rfl | rfl | rfl | rfl | rfl | rfl | rfl | rfl | rfl | rfl | rfl | rfl | rfl | rfl | rfl) <;> decide]
  refine Qai rfl rfl (TX (zQ ?_))
  exact zX () [_] Tryz.results57 ⟨rfl, trivial⟩ (rfl) SB
theorem some_v {w0 : World} {H : List SA} {num : Int} {mk : Nat} (hmk : mk < 65536) :
    CT Tryz.prog w0 (H) 48 [.agg (ViewV.mk num (mk : Int)).cells] (α := Unit) (fun _ => .int .i64 (someV num mk : Int)) (fun _ => H) := by
  refine CT_intro Tryz.func48 rfl Tryz.ntmps48 rfl (T2 (ze rfl (Ef_boxN rfl (fun b1 => ?_))))
  refine Qai rfl rfl (TX (zS (T2 (zy (zn rfl rfl) (ze rfl (zc (size_v hmk) rfl (fun x4 => ?_)))))))
  refine zy (Qt_eql rfl rfl) (TX (zC rfl (fun h5 => ?_) (fun h5 => ?_)))
  ·
    have p5 := cL h5
    refine T2 (Qai rfl rfl (TX (zQ (zr ?_))))
    exact zX () [_] Tryz.results48 ⟨rfl, trivial⟩ (by rw [someV, if_pos (by omega)]; rfl) SB
  have p5 := cL h5
  refine S4 (zy (zn rfl rfl) (ze rfl (zc (faults_v hmk) rfl (fun x7 => ?_))))
  have hsz := sizeV_le (num := num) hmk
  have hfa : faultsV num mk ≤ 16 := by unfold faultsV; omega
  refine zy (zj rfl rfl) (Qai rfl rfl (TX (zQ ?_)))
  exact zX () [_] Tryz.results48 ⟨rfl, trivial⟩ (by rw [someV, if_neg (by omega)]; rfl) SB
end
end Go.Proofs.YtnijomppbgdmnaaGreat
