/- Walks: OpenOf of package seals, keys by their parts, stops New. -/
import Derived.Test.YtnijomppbgdmnaaOo
import Derived.Test.YtnijomppbgdmnaaTw
namespace Go.Proofs.Ytnijomppbgdmnaa
open Go.RowKit Go.Sx
set_option maxRecDepth 100000
set_option linter.unusedSimpArgs false
set_option linter.unusedVariables false
set_option maxHeartbeats 1000000 in
theorem keys_c {w0 : World} {H : List SA} {ask : AskV} :
    CT Try.prog w0 (H) 6 [.agg ask.cells] (α := (PS × List Nat)) (fun y => .agg (KeysV.mk ⟨y.1.a, y.1.c, y.1.ls⟩ ask.roots).cells) (fun y => pu (y.1.ls.map BS.l = keyT 16) :: dat y.2 (Deep.leads (PS.mk y.1.a y.1.c y.1.ls)) :: H) := by
  refine CT_intro Try.func6 rfl Try.ntmps6 rfl ?_
  refine T_seq ?_
  refine T_region ?_
  refine TL_e rfl (Ef_boxN rfl (fun b1 => ?_))
  refine TL_e rfl (Ef_allocN (fun b2 => ?_))
  refine TL_nil ?_
  refine X_then ?_
  refine T_seq ?_
  refine T_region ?_
  refine TL_q (Qt_fieldAddr 4 rfl rfl) rfl ?_
  refine TL_q (Qt_load1 rfl) rfl ?_
  refine TL_q (Qt_build [(1, .slice _ _ _)] rfl (by kernel_rfl)) rfl ?_
  refine TL_e rfl (Ef_allocN (fun b3 => ?_))
  refine TL_n (Ef_storeN rfl rfl (?_))
  refine TL_nil ?_
  refine X_then ?_
  refine T_seq ?_
  refine T_seq ?_
  refine T_region ?_
  refine TL_q (Qt_move (.int .i64 _) rfl) rfl ?_
  refine TL_nil ?_
  refine X_then ?_
  refine T_block ?_
  refine T_loop [4, 8, 9, 10, 11, 12, 13, 14, 15, 16, 17, 18, 19] [8] (fun us H' => ∃ (k : Nat) (a : Option Addr) (c : Nat) (ls : List BS) (fp : List Nat), us = [.int .i64 (k : Int)] ∧ row (.slice a (ls).length c) 36 1 ((ls).map BS.val) :: eachA fp ls :: blk b3 (.cells (KeysV.mk ⟨a, c, ls⟩ ask.roots).cells 32 (0, 0)) :: blk b1 (.cells ask.cells 27 (0, 0)) :: blk b2 (.cells KeysV.zero.cells 32 (0, 0)) :: H = H' ∧ k ≤ 16 ∧ (ls.map BS.l = keyT k) ∧ (ls.length = k)) (fun us => match us with | .int _ i :: _ => 16 - i.toNat | _ => 0) ⟨0, none, 0, [], [], rfl, rfl, by omega, rfl, rfl⟩ (fun w hw => by
        have h0 : St w0 (blk b3 (.cells (KeysV.mk ⟨none, 0, []⟩ ask.roots).cells 32 (0, 0)) :: blk b1 (.cells ask.cells 27 (0, 0)) :: blk b2 (.cells KeysV.zero.cells 32 (0, 0)) :: H) w := Subs.st inferInstance w hw
        exact (h0.eachNil).addNil 36 1) ?_
  rintro τ0 _ _  ⟨k, a, c, ls, fp, rfl, rfl, hk0, hls, hll⟩ _
  refine T_seq ?_
  refine T_region ?_
  refine TL_q (Qt_lss rfl rfl) rfl ?_
  refine TL_nil ?_
  refine X_then ?_
  refine T_seq ?_
  refine T_cond rfl (fun h9 => ?_) (fun h9 => ?_)
  ·
    have p9 := h9
    try simp only [decide_eq_true_eq, decide_eq_false_iff_not, Bool.not_eq_true', Bool.not_eq_false', Option.isNone_iff_eq_none, ne_eq, Decidable.not_not, Int.not_lt, Int.not_le] at p9
    refine T_skip ?_
    refine X_then ?_
    refine T_seq ?_
    refine T_block ?_
    refine T_seq ?_
    refine T_region ?_
    refine TL_q (Qt_move (.int .i64 _) rfl) rfl ?_
    refine TL_q (Qt_assign (.int .i64 _) rfl) rfl ?_
    refine TL_nil ?_
    refine X_then ?_
    refine T_region ?_
    refine TL_q (Qt_fieldAddr 0 rfl rfl) rfl ?_
    refine TL_q (Qt_load1 rfl) rfl ?_
    refine TL_q (Qt_move (.int .i64 _) rfl) rfl ?_
    refine TL_q (Qt_conv rfl rfl Try.underlying5) rfl ?_
    rw [wrap_nat .u8 rfl (by show _ < 2 ^ 8; omega)]
    obtain ⟨u, hu⟩ : ∃ u : UInt8, u = UInt8.ofNat k := ⟨_, rfl⟩
    have hun : (k : Int) = (u.toNat : Int) := by rw [hu]; simp; omega
    refine TL_e rfl (Ef_sliceN (m := ([u] : List UInt8).length) [.int .u8 (k : Int)] (bytesV [u]) rfl rfl rfl (by rw [hun]; rfl) (by simp [Value.cells]) rfl rfl (fun a15 c15 => ?_))
    refine TL_e rfl (Ef_slice1 (v := .slice _ _ _) rfl (fun a16 c16 => ?_))
    refine TL_e rfl (Ef_appendP (sv := .slice _ _ _) (xv := .slice _ _ _) ⟨a15, c15, [u]⟩ rfl rfl (by omega) rfl (fun a17 c17 => ?_))
    refine TL_q (Qt_fieldAddr 0 rfl rfl) rfl ?_
    refine TL_n (Ef_store1 (.slice _ _ _) rfl rfl (?_))
    refine TL_nil ?_
    refine X_block ?_
    refine X_then ?_
    refine T_region ?_
    first
      | refine TL_q (Qt_add rfl rfl (by omega) (by omega)) rfl ?_
      | refine TL_q (Qt_addw rfl rfl) rfl ?_
    refine TL_q (Qt_move (.int .i64 _) rfl) rfl ?_
    refine TL_nil ?_
    apply X_loop
    case ha => exact (by repeat (first | with_reducible exact agree_refl | refine agree_upd rfl ?_ | refine agree_mix rfl ?_ | refine agree_setAll rfl ?_))
    case hI => exact ⟨k + 1, a17, c17, ls ++ [⟨a15, c15, [u]⟩], rowFp (.slice a15 ([u] : List UInt8).length c15) ++ fp, rfl, rfl, by omega, by rw [List.map_append, hls, keyT_succ, ← hu]; rfl, by simp [hll]⟩
    case hm => exact by show 16 - (k + 1 : Int).toNat < 16 - (k : Int).toNat; omega
    case hH => exact fun w hw => eachUnder (Subs.st inferInstance w hw : St w0 (row (.slice a17 (ls ++ [(⟨a15, c15, [u]⟩ : BS)]).length c17) 36 1 ((ls ++ [(⟨a15, c15, [u]⟩ : BS)]).map BS.val) :: row (BS.val ⟨a15, c15, [u]⟩) 5 1 (bytesV (BS.l ⟨a15, c15, [u]⟩)) :: eachA fp ls :: blk b3 (.cells (KeysV.mk ⟨a17, c17, ls ++ [⟨a15, c15, [u]⟩]⟩ ask.roots).cells 32 (0, 0)) :: blk b1 (.cells ask.cells 27 (0, 0)) :: blk b2 (.cells KeysV.zero.cells 32 (0, 0)) :: H) w)
  ·
    have p9 := h9
    try simp only [decide_eq_true_eq, decide_eq_false_iff_not, Bool.not_eq_true', Bool.not_eq_false', Option.isNone_iff_eq_none, ne_eq, Decidable.not_not, Int.not_lt, Int.not_le] at p9
    have hk16 : k = 16 := by omega
    refine T_exit ?_
    refine X_then_exit ?_
    refine X_loop_exit ?_
    refine X_block_exit ?_
    refine X_then ?_
    refine T_seq ?_
    refine T_region ?_
    refine TL_q (Qt_loadN rfl rfl) rfl ?_
    refine TL_n (Ef_storeN rfl rfl (?_))
    refine TL_nil ?_
    refine X_then ?_
    refine T_ret ?_
    refine X_conv (fun w hw => St.datPS (a := a) (c := c) (ls := ls) (fp := fp) (e := 36) (H := blk b2 (.cells (KeysV.mk ⟨a, c, ls⟩ ask.roots).cells 32 (0, 0)) :: H) (Subs.st inferInstance w hw)) (fun fp2 => ?_)
    exact X_ret (⟨a, c, ls⟩, fp2) [_] Try.results6 ⟨⟨_, rfl, res_cellN rfl⟩, trivial⟩ rfl (fun w hw => (Subs.st inferInstance w hw : St w0 (dat fp2 (Deep.leads (PS.mk a c ls)) :: H) w).addPure (by rw [hls, hk16]))
def encI (n : Int) : Value := .int .i64 n
instance keyInt : Key Try.prog 3 encI where
  eq x y w := equal_run (x := encI x) (y := encI y) (h := (inferInstance : EqV Try.prog 3 (.int .i64 x) (.int .i64 y) _)) w
  now d hd x y := by
    rw [Try.underlying3] at hd
    obtain rfl : .int .i64 = d := by simpa using hd
    right
    simp only [encI, Instr.sameNow, if_true]
    congr 1
  there := by rw [Try.underlying3]; rfl
  check k empty w := by
    have h : ∀ n, n = 9999 + 1 → (Instr.checkKey empty n 3 (encI k)).run Try.prog w = .ok () w := fun n hn => by
      rw [hn, Instr.checkKey]
      simp only [Sem.run_bind, run_underlying Try.underlying3, Result.andThen_ok, encI, Sem.run_pure]
    exact h 10000 (by decide)
  same k := by
    have h : ∀ n, Instr.sameBits n (encI k) (encI k) = true := fun n => by cases n <;> simp [Instr.sameBits, encI]
    exact h 10000

set_option maxHeartbeats 1000000 in
theorem stopsNew_c {w0 : World} {H : List SA} {num : Int} {mk : Nat} {sa : Option Addr} {sc : Nat} {ls : List BS} {rt : Sl} [rk : RdC w0 H (.slice sa ls.length sc) 1 (ls.map BS.val)] [rke : RdE w0 H ls] (hkl : ∀ x ∈ ls, x.l.length ≤ 4294967000) (hn : ls.length ≤ 1000) :
    CT Try.prog w0 (H) 10 [.agg (KeysV.mk ⟨sa, sc, ls⟩ rt).cells, .agg (ViewV.mk num (mk : Int)).cells] (α := ((Nat × Nat) × (PS × List Nat))) (fun y => .pointer (some ⟨y.1.1, 0, none⟩)) (fun y => pu (y.2.1.ls.map BS.l = ls.map BS.l) :: blk y.1.1 (.cells (StopsV.mk (KeysV.mk ⟨y.2.1.a, y.2.1.c, y.2.1.ls⟩ ⟨none, 0, 0⟩) (ViewV.mk num (mk : Int)) (some y.1.2)).cells 75 (0, 0)) :: blk y.1.2 (mapO encI encI [] 0) :: dat y.2.2 (Deep.leads (PS.mk y.2.1.a y.2.1.c y.2.1.ls)) :: H) := by
  refine CT_intro Try.func10 rfl Try.ntmps10 rfl ?_
  refine T_seq ?_
  refine T_region ?_
  refine TL_e rfl (Ef_boxN rfl (fun b2 => ?_))
  refine TL_e rfl (Ef_boxN rfl (fun b3 => ?_))
  refine TL_q (Qt_assign (.pointer _) rfl) rfl ?_
  refine TL_nil ?_
  refine X_then ?_
  refine T_seq ?_
  refine T_region ?_
  refine TL_e rfl (Ef_allocN (fun b5 => ?_))
  refine TL_nil ?_
  refine X_then ?_
  refine T_seq ?_
  refine T_seq ?_
  refine T_region ?_
  refine TL_q (Qt_fieldAddr 0 rfl rfl) rfl ?_
  refine TL_q (Qt_load1 rfl) rfl ?_
  refine TL_q (Qt_len_slice rfl Try.underlying28) rfl ?_
  refine TL_q (Qt_move (.int .i64 _) rfl) rfl ?_
  refine TL_nil ?_
  refine X_then ?_
  refine T_block ?_
  refine T_loop [7, 11, 12, 13, 14, 15, 16, 17, 18, 19, 20, 21, 22] [11] (fun us H' => ∃ (k : Nat) (a : Option Addr) (c : Nat) (os : List BS) (fp : List Nat), us = [.int .i64 (k : Int)] ∧ row (.slice a (os).length c) 36 1 ((os).map BS.val) :: eachA fp os :: blk b5 (.cells (KeysV.mk ⟨a, c, os⟩ ⟨none, 0, 0⟩).cells 32 (0, 0)) :: blk b2 (.cells (KeysV.mk ⟨sa, sc, ls⟩ rt).cells 32 (0, 0)) :: blk b3 (.cells (ViewV.mk num (mk : Int)).cells 24 (0, 0)) :: H = H' ∧ k ≤ ls.length ∧ (os.map BS.l = (ls.map BS.l).take k) ∧ (os.length = k)) (fun us => match us with | .int _ i :: _ => ls.length - i.toNat | _ => 0) ⟨0, none, 0, [], [], rfl, rfl, by omega, rfl, rfl⟩ (fun w hw => by
        have h0 : St w0 (blk b5 (.cells (KeysV.mk ⟨none, 0, []⟩ ⟨none, 0, 0⟩).cells 32 (0, 0)) :: blk b2 (.cells (KeysV.mk ⟨sa, sc, ls⟩ rt).cells 32 (0, 0)) :: blk b3 (.cells (ViewV.mk num (mk : Int)).cells 24 (0, 0)) :: H) w := Subs.st inferInstance w hw
        exact (h0.eachNil).addNil 36 1) ?_
  rintro τ0 _ _  ⟨k, a, c, os, fp, rfl, rfl, hk0, hos, hol⟩ _
  refine T_seq ?_
  refine T_region ?_
  refine TL_q (Qt_lss rfl rfl) rfl ?_
  refine TL_nil ?_
  refine X_then ?_
  refine T_seq ?_
  refine T_cond rfl (fun h12 => ?_) (fun h12 => ?_)
  ·
    have p12 := h12
    try simp only [decide_eq_true_eq, decide_eq_false_iff_not, Bool.not_eq_true', Bool.not_eq_false', Option.isNone_iff_eq_none, ne_eq, Decidable.not_not, Int.not_lt, Int.not_le] at p12
    have hk : k < ls.length := by omega
    refine T_skip ?_
    refine X_then ?_
    refine T_seq ?_
    refine T_block ?_
    refine T_seq ?_
    refine T_region ?_
    refine TL_q (Qt_indexR rfl rfl (by omega) (by simp; omega)) rfl ?_
    refine TL_q (Qt_loadR (.slice _ _ _) rfl (vals_get _ _ hk)) rfl ?_
    refine TL_q (Qt_assign (.slice _ _ _) rfl) rfl ?_
    refine TL_nil ?_
    refine X_then ?_
    refine T_drawF H (by kernel_rfl) (Subs.st inferInstance) ?_
    refine DLF_q (i := 0) (by kernel_rfl) rfl (by kernel_rfl) (by kernel_rfl) (Qt_fieldAddr 0 rfl rfl) rfl ?_
    refine DLF_q (i := 2) (by kernel_rfl) rfl (by kernel_rfl) (by kernel_rfl) (Qt_move (.slice _ _ _) rfl) rfl ?_
    refine DLF_2 (i := 1) (j := 3) (by kernel_rfl) ?_ ?_
    ·
      refine DLS_e rfl rfl (Ef_of_Qt (Qt_load1 rfl) ⟨(Subs.st inferInstance), ?_⟩)
      refine DLF_1 (i := 3) (by kernel_rfl) ?_
      have : RdB w0 H (.slice ls[k].a ls[k].l.length ls[k].c) ls[k].l := rke.get (List.getElem_mem hk)
      refine DLS_e rfl rfl (Ef_call (clone_c (by have := hkl _ (List.getElem_mem hk); omega)) rfl (fun x18 => ⟨(Subs.st inferInstance), ?_⟩))
      refine DLF_1 (i := 4) (by kernel_rfl) ?_
      refine DLS_e rfl rfl (Ef_slice1 (v := .slice _ _ _) rfl (fun a19 c19 => ⟨(Subs.st inferInstance), ?_⟩))
      refine DLF_1 (i := 5) (by kernel_rfl) ?_
      refine DLS_e rfl rfl (Ef_appendP (sv := .slice _ _ _) (xv := .slice _ _ _) ⟨x18.a, x18.c, ls[k].l⟩ rfl rfl (by omega) rfl (fun a20 c20 => ⟨(Subs.st inferInstance), ?_⟩))
      refine DLF_q (i := 6) (by kernel_rfl) rfl (by kernel_rfl) (by kernel_rfl) (Qt_fieldAddr 0 rfl rfl) rfl ?_
      refine DLF_1 (i := 7) (by kernel_rfl) ?_
      refine DLS_n rfl (Ef_store1 (.slice _ _ _) rfl rfl (⟨(Subs.st inferInstance), ?_⟩))
      refine DLF_nil (by kernel_rfl) ?_
      refine X_block ?_
      refine X_then ?_
      refine T_region ?_
      first
        | refine TL_q (Qt_add rfl rfl (by omega) (by omega)) rfl ?_
        | refine TL_q (Qt_addw rfl rfl) rfl ?_
      refine TL_q (Qt_move (.int .i64 _) rfl) rfl ?_
      refine TL_nil ?_
      apply X_loop
      case ha => exact (by repeat (first | with_reducible exact agree_refl | refine agree_upd rfl ?_ | refine agree_mix rfl ?_ | refine agree_setAll rfl ?_))
      case hI => exact ⟨k + 1, a20, c20, os ++ [⟨x18.a, x18.c, ls[k].l⟩], rowFp (.slice x18.a ls[k].l.length x18.c) ++ fp, rfl, rfl, by omega, by rw [List.map_append, hos, take_get _ _ (by simpa using hk)]; simp, by simp [hol]⟩
      case hm => exact by show ls.length - (k + 1 : Int).toNat < ls.length - (k : Int).toNat; omega
      case hH => exact fun w hw => eachUnder (Subs.st inferInstance w hw : St w0 (row (.slice a20 (os ++ [(⟨x18.a, x18.c, ls[k].l⟩ : BS)]).length c20) 36 1 ((os ++ [(⟨x18.a, x18.c, ls[k].l⟩ : BS)]).map BS.val) :: row (BS.val ⟨x18.a, x18.c, ls[k].l⟩) 5 1 (bytesV (BS.l ⟨x18.a, x18.c, ls[k].l⟩)) :: eachA fp os :: blk b5 (.cells (KeysV.mk ⟨a20, c20, os ++ [⟨x18.a, x18.c, ls[k].l⟩]⟩ ⟨none, 0, 0⟩).cells 32 (0, 0)) :: blk b2 (.cells (KeysV.mk ⟨sa, sc, ls⟩ rt).cells 32 (0, 0)) :: blk b3 (.cells (ViewV.mk num (mk : Int)).cells 24 (0, 0)) :: H) w)
    ·
      have : RdB w0 H (.slice ls[k].a ls[k].l.length ls[k].c) ls[k].l := rke.get (List.getElem_mem hk)
      refine DLS_e rfl rfl (Ef_call (clone_c (by have := hkl _ (List.getElem_mem hk); omega)) rfl (fun x18 => ⟨(Subs.st inferInstance), ?_⟩))
      refine DLF_2 (i := 1) (j := 4) (by kernel_rfl) ?_ ?_
      ·
        refine DLS_e rfl rfl (Ef_of_Qt (Qt_load1 rfl) ⟨(Subs.st inferInstance), ?_⟩)
        refine DLF_1 (i := 4) (by kernel_rfl) ?_
        refine DLS_e rfl rfl (Ef_slice1 (v := .slice _ _ _) rfl (fun a19 c19 => ⟨(Subs.st inferInstance), ?_⟩))
        refine DLF_1 (i := 5) (by kernel_rfl) ?_
        refine DLS_e rfl rfl (Ef_appendP (sv := .slice _ _ _) (xv := .slice _ _ _) ⟨x18.a, x18.c, ls[k].l⟩ rfl rfl (by omega) rfl (fun a20 c20 => ⟨(Subs.st inferInstance), ?_⟩))
        refine DLF_q (i := 6) (by kernel_rfl) rfl (by kernel_rfl) (by kernel_rfl) (Qt_fieldAddr 0 rfl rfl) rfl ?_
        refine DLF_1 (i := 7) (by kernel_rfl) ?_
        refine DLS_n rfl (Ef_store1 (.slice _ _ _) rfl rfl (⟨(Subs.st inferInstance), ?_⟩))
        refine DLF_nil (by kernel_rfl) ?_
        refine X_block ?_
        refine X_then ?_
        refine T_region ?_
        first
          | refine TL_q (Qt_add rfl rfl (by omega) (by omega)) rfl ?_
          | refine TL_q (Qt_addw rfl rfl) rfl ?_
        refine TL_q (Qt_move (.int .i64 _) rfl) rfl ?_
        refine TL_nil ?_
        apply X_loop
        case ha => exact (by repeat (first | with_reducible exact agree_refl | refine agree_upd rfl ?_ | refine agree_mix rfl ?_ | refine agree_setAll rfl ?_))
        case hI => exact ⟨k + 1, a20, c20, os ++ [⟨x18.a, x18.c, ls[k].l⟩], rowFp (.slice x18.a ls[k].l.length x18.c) ++ fp, rfl, rfl, by omega, by rw [List.map_append, hos, take_get _ _ (by simpa using hk)]; simp, by simp [hol]⟩
        case hm => exact by show ls.length - (k + 1 : Int).toNat < ls.length - (k : Int).toNat; omega
        case hH => exact fun w hw => eachUnder (Subs.st inferInstance w hw : St w0 (row (.slice a20 (os ++ [(⟨x18.a, x18.c, ls[k].l⟩ : BS)]).length c20) 36 1 ((os ++ [(⟨x18.a, x18.c, ls[k].l⟩ : BS)]).map BS.val) :: row (BS.val ⟨x18.a, x18.c, ls[k].l⟩) 5 1 (bytesV (BS.l ⟨x18.a, x18.c, ls[k].l⟩)) :: eachA fp os :: blk b5 (.cells (KeysV.mk ⟨a20, c20, os ++ [⟨x18.a, x18.c, ls[k].l⟩]⟩ ⟨none, 0, 0⟩).cells 32 (0, 0)) :: blk b2 (.cells (KeysV.mk ⟨sa, sc, ls⟩ rt).cells 32 (0, 0)) :: blk b3 (.cells (ViewV.mk num (mk : Int)).cells 24 (0, 0)) :: H) w)
      ·
        refine DLS_e rfl rfl (Ef_slice1 (v := .slice _ _ _) rfl (fun a19 c19 => ⟨(Subs.st inferInstance), ?_⟩))
        refine DLF_1 (i := 1) (by kernel_rfl) ?_
        refine DLS_e rfl rfl (Ef_of_Qt (Qt_load1 rfl) ⟨(Subs.st inferInstance), ?_⟩)
        refine DLF_1 (i := 5) (by kernel_rfl) ?_
        refine DLS_e rfl rfl (Ef_appendP (sv := .slice _ _ _) (xv := .slice _ _ _) ⟨x18.a, x18.c, ls[k].l⟩ rfl rfl (by omega) rfl (fun a20 c20 => ⟨(Subs.st inferInstance), ?_⟩))
        refine DLF_q (i := 6) (by kernel_rfl) rfl (by kernel_rfl) (by kernel_rfl) (Qt_fieldAddr 0 rfl rfl) rfl ?_
        refine DLF_1 (i := 7) (by kernel_rfl) ?_
        refine DLS_n rfl (Ef_store1 (.slice _ _ _) rfl rfl (⟨(Subs.st inferInstance), ?_⟩))
        refine DLF_nil (by kernel_rfl) ?_
        refine X_block ?_
        refine X_then ?_
        refine T_region ?_
        first
          | refine TL_q (Qt_add rfl rfl (by omega) (by omega)) rfl ?_
          | refine TL_q (Qt_addw rfl rfl) rfl ?_
        refine TL_q (Qt_move (.int .i64 _) rfl) rfl ?_
        refine TL_nil ?_
        apply X_loop
        case ha => exact (by repeat (first | with_reducible exact agree_refl | refine agree_upd rfl ?_ | refine agree_mix rfl ?_ | refine agree_setAll rfl ?_))
        case hI => exact ⟨k + 1, a20, c20, os ++ [⟨x18.a, x18.c, ls[k].l⟩], rowFp (.slice x18.a ls[k].l.length x18.c) ++ fp, rfl, rfl, by omega, by rw [List.map_append, hos, take_get _ _ (by simpa using hk)]; simp, by simp [hol]⟩
        case hm => exact by show ls.length - (k + 1 : Int).toNat < ls.length - (k : Int).toNat; omega
        case hH => exact fun w hw => eachUnder (Subs.st inferInstance w hw : St w0 (row (.slice a20 (os ++ [(⟨x18.a, x18.c, ls[k].l⟩ : BS)]).length c20) 36 1 ((os ++ [(⟨x18.a, x18.c, ls[k].l⟩ : BS)]).map BS.val) :: row (BS.val ⟨x18.a, x18.c, ls[k].l⟩) 5 1 (bytesV (BS.l ⟨x18.a, x18.c, ls[k].l⟩)) :: eachA fp os :: blk b5 (.cells (KeysV.mk ⟨a20, c20, os ++ [⟨x18.a, x18.c, ls[k].l⟩]⟩ ⟨none, 0, 0⟩).cells 32 (0, 0)) :: blk b2 (.cells (KeysV.mk ⟨sa, sc, ls⟩ rt).cells 32 (0, 0)) :: blk b3 (.cells (ViewV.mk num (mk : Int)).cells 24 (0, 0)) :: H) w)
  ·
    have p12 := h12
    try simp only [decide_eq_true_eq, decide_eq_false_iff_not, Bool.not_eq_true', Bool.not_eq_false', Option.isNone_iff_eq_none, ne_eq, Decidable.not_not, Int.not_lt, Int.not_le] at p12
    have hos : os.map BS.l = ls.map BS.l := by rw [hos]; exact List.take_of_length_le (by simp; omega)
    refine T_exit ?_
    refine X_then_exit ?_
    refine X_loop_exit ?_
    refine X_block_exit ?_
    refine X_then ?_
    refine T_seq ?_
    refine T_region ?_
    refine TL_q (Qt_loadN rfl rfl) rfl ?_
    refine TL_q (Qt_loadN rfl rfl) rfl ?_
    refine TL_e rfl (Ef_makeMap encI encI (fun r25 => ?_))
    refine TL_q (Qt_build [(0, (.agg _)), (1, (.agg _)), (2, (.map _))] rfl (by kernel_rfl)) rfl ?_
    refine TL_e rfl (Ef_boxN rfl (fun b27 => ?_))
    refine TL_q (Qt_assign (.pointer _) rfl) rfl ?_
    refine TL_nil ?_
    refine X_then ?_
    refine T_ret ?_
    refine X_conv (fun w hw => St.datPS (a := a) (c := c) (ls := os) (fp := fp) (e := 36) (H := blk b27 (.cells (StopsV.mk (KeysV.mk ⟨a, c, os⟩ ⟨none, 0, 0⟩) (ViewV.mk num (mk : Int)) (some r25)).cells 75 (0, 0)) :: blk r25 (mapO encI encI [] 0) :: H) (Subs.st inferInstance w hw)) (fun fp2 => ?_)
    exact X_ret ((b27, r25), (⟨a, c, os⟩, fp2)) [_] Try.results10 ⟨rfl, trivial⟩ rfl (fun w hw => (Subs.st inferInstance w hw : St w0 (blk b27 (.cells (StopsV.mk (KeysV.mk ⟨a, c, os⟩ ⟨none, 0, 0⟩) (ViewV.mk num (mk : Int)) (some r25)).cells 75 (0, 0)) :: blk r25 (mapO encI encI [] 0) :: dat fp2 (Deep.leads (PS.mk a c os)) :: H) w).addPure hos)
end Go.Proofs.Ytnijomppbgdmnaa
