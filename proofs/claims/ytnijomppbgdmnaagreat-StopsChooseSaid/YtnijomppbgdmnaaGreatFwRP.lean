/- Walks: OpenOf of package seals, keys by their parts, stops New. -/
import Derived.Test.YtnijomppbgdmnaaGreatSgP
import Derived.Test.YtnijomppbgdmnaaGreatSesRP
import Derived.Test.YtnijomppbgdmnaaGreatTwP
namespace Go.Proofs.YtnijomppbgdmnaaGreat
section
open Go.RowKit Go.Sx
set_option maxRecDepth 100000
set_option linter.unusedSimpArgs false
set_option linter.unusedVariables false
set_option maxHeartbeats 1000000 in
theorem keys_c {w0 : World} {H : List SA} {ask : AskV} :
 CT Tryz.prog w0 (H) 8 [.agg ask.cells] (α := (PS × List Nat)) (fun y => .agg (KeysV.mk ⟨y.1.a, y.1.c, y.1.ls⟩ ask.roots).cells) (fun y => pu (y.1.ls.map BS.l = keyT 16) :: dat y.2 (Deep.leads (PS.mk y.1.a y.1.c y.1.ls)) :: H) := by
 refine CT_intro Tryz.func8 rfl Tryz.ntmps8 rfl ?_
 refine T2 ?_
 refine ze rfl (Ef_boxN rfl (fun b1 => ?_))
 refine ze rfl (Ef_allocN (fun b2 => ?_))
 refine T4 (zq (zf 4 rfl rfl) rfl (zq (zl rfl) rfl (zq (Qt_build [(1, .slice _ _ _)] rfl (by kernel_rfl)) rfl ?_)))
 refine ze rfl (Ef_allocN (fun b3 => ?_))
 refine zN (zs rfl rfl (?_))
 refine TX (zS (T2 ?_))
 refine Qmi rfl rfl (TX (zB ?_))
 refine T_loop [4, 8, 9, 10, 11, 12, 13, 14, 15, 16, 17, 18, 19] [8] (fun us H' => ∃ (k : Nat) (a : Option Addr) (c : Nat) (ls : List BS) (fp : List Nat), us = [.int .i64 (k : Int)] ∧ row (.slice a (ls).length c) 33 1 ((ls).map BS.val) :: eachA fp ls :: blk b3 (.cells (KeysV.mk ⟨a, c, ls⟩ ask.roots).cells 40 (0, 0)) :: blk b1 (.cells ask.cells 27 (0, 0)) :: blk b2 (.cells KeysV.zero.cells 40 (0, 0)) :: H = H' ∧ k ≤ 16 ∧ (ls.map BS.l = keyT k) ∧ (ls.length = k)) (fun us => match us with | .int _ i :: _ => 16 - i.toNat | _ => 0) ⟨0, none, 0, [], [], rfl, rfl, by omega, rfl, rfl⟩ (fun w hw => by
  have h0 : St w0 (blk b3 (.cells (KeysV.mk ⟨none, 0, []⟩ ask.roots).cells 40 (0, 0)) :: blk b1 (.cells ask.cells 27 (0, 0)) :: blk b2 (.cells KeysV.zero.cells 40 (0, 0)) :: H) w := SB w hw
  exact (h0.eachNil).addNil 33 1) ?_
 rintro τ0 _ _  ⟨k, a, c, ls, fp, rfl, rfl, hk0, hls, hll⟩ _
 refine T2 (zq (Qt_lss rfl rfl) rfl (TX (zS ?_)))
 refine zC rfl (fun h9 => ?_) (fun h9 => ?_)
 ·
  have p9 := h9
  try simp only [dp] at p9
  refine zk (zx (zS (zB (T2 ?_))))
  refine Qmi rfl rfl (Qai rfl rfl (TX (zR ?_)))
  refine zq (zf 0 rfl rfl) rfl (zq (zl rfl) rfl (Qmi rfl rfl (zq (Qt_conv rfl rfl Tryz.underlying5) rfl ?_)))
  rw [wrap_nat .u8 rfl (by show _ < 2 ^ 8; omega)]
  obtain ⟨u, hu⟩ : ∃ u : UInt8, u = UInt8.ofNat k := ⟨_, rfl⟩
  have hun : (k : Int) = (u.toNat : Int) := by rw [hu]; simp; omega
  refine ze rfl (Ef_sliceN (m := ([u] : List UInt8).length) [.int .u8 (k : Int)] (bytesV [u]) rfl rfl rfl (by rw [hun]; rfl) (by simp [Value.cells]) rfl rfl (fun a15 c15 => ?_))
  refine ze rfl (Ef_slice1 (v := .slice _ _ _) rfl (fun a16 c16 => ?_))
  refine ze rfl (Ef_appendP (sv := .slice _ _ _) (xv := .slice _ _ _) ⟨a15, c15, [u]⟩ rfl rfl (by omega) rfl (fun a17 c17 => ?_))
  refine zq (zf 0 rfl rfl) rfl ?_
  refine zN (Ef_store1 (.slice _ _ _) rfl rfl (?_))
  refine zz (X_block (zx (zR ?_)))
  refine zq (Qt_add rfl rfl (by omega) (by omega)) rfl (Qmi rfl rfl (zz ?_))
  apply X_loop
  case ha => exact (by repeat (first | with_reducible exact agree_refl | refine agree_upd rfl ?_ | refine agree_mix rfl ?_ | refine agree_setAll rfl ?_))
  case hI => exact ⟨k + 1, a17, c17, ls ++ [⟨a15, c15, [u]⟩], rowFp (.slice a15 ([u] : List UInt8).length c15) ++ fp, rfl, rfl, by omega, by rw [List.map_append, hls, keyT_succ, ← hu]; rfl, by simp [hll]⟩
  case hm => exact by show 16 - (k + 1 : Int).toNat < 16 - (k : Int).toNat; omega
  case hH => exact fun w hw => eachUnder (SB w hw : St w0 (row (.slice a17 (ls ++ [(⟨a15, c15, [u]⟩ : BS)]).length c17) 33 1 ((ls ++ [(⟨a15, c15, [u]⟩ : BS)]).map BS.val) :: row (BS.val ⟨a15, c15, [u]⟩) 5 1 (bytesV (BS.l ⟨a15, c15, [u]⟩)) :: eachA fp ls :: blk b3 (.cells (KeysV.mk ⟨a17, c17, ls ++ [⟨a15, c15, [u]⟩]⟩ ask.roots).cells 40 (0, 0)) :: blk b1 (.cells ask.cells 27 (0, 0)) :: blk b2 (.cells KeysV.zero.cells 40 (0, 0)) :: H) w)
 have p9 := h9
 try simp only [dp] at p9
 have hk16 : k = 16 := by omega
 refine zY (zG (zW (zE (zx (T2 ?_)))))
 refine zq (zn rfl rfl) rfl ?_
 refine zN (zs rfl rfl (?_))
 refine TX (zQ ?_)
 refine X_conv (fun w hw => St.datPS (a := a) (c := c) (ls := ls) (fp := fp) (e := 33) (H := blk b2 (.cells (KeysV.mk ⟨a, c, ls⟩ ask.roots).cells 40 (0, 0)) :: H) (SB w hw)) (fun fp2 => ?_)
 exact zX (⟨a, c, ls⟩, fp2) [_] Tryz.results8 ⟨⟨_, rfl, res_cellN rfl⟩, trivial⟩ rfl (fun w hw => (SB w hw : St w0 (dat fp2 (Deep.leads (PS.mk a c ls)) :: H) w).addPure (by rw [hls, hk16]))
def encI (n : Int) : Value := .int .i64 n
instance keyInt : Key Tryz.prog 3 encI where
 eq x y w := equal_run (x := encI x) (y := encI y) (h := (inferInstance : EqV Tryz.prog 3 (.int .i64 x) (.int .i64 y) _)) w
 now d hd x y := by
  rw [Tryz.underlying3] at hd
  obtain rfl : .int .i64 = d := by simpa using hd
  right
  simp only [encI, Instr.sameNow, if_true]
  congr 1
 there := by rw [Tryz.underlying3]; rfl
 check k empty w := by
  have h : ∀ n, n = 9999 + 1 → (Instr.checkKey empty n 3 (encI k)).run Tryz.prog w = .ok () w := fun n hn => by
   rw [hn, Instr.checkKey]
   simp only [Sem.run_bind, run_underlying Tryz.underlying3, Result.andThen_ok, encI, Sem.run_pure]
  exact h 10000 (by decide)
 same k := by
  have h : ∀ n, Instr.sameBits n (encI k) (encI k) = true := fun n => by cases n <;> simp [Instr.sameBits, encI]
  exact h 10000

set_option maxHeartbeats 1000000 in
theorem stopsNew_c {w0 : World} {H : List SA} {num : Int} {mk : Nat} {sa : Option Addr} {sc : Nat} {ls : List BS} {rt : Sl} [rk : RdC w0 H (.slice sa ls.length sc) 1 (ls.map BS.val)] [rke : RdE w0 H ls] (hkl : ∀ x ∈ ls, x.l.length ≤ 4294967000) (hn : ls.length ≤ 1000) :
 CT Tryz.prog w0 (H) 22 [.agg (KeysV.mk ⟨sa, sc, ls⟩ rt).cells, .agg (ViewV.mk num (mk : Int)).cells] (α := ((Nat × Nat) × (PS × List Nat))) (fun y => .pointer (some ⟨y.1.1, 0, none⟩)) (fun y => pu (y.2.1.ls.map BS.l = ls.map BS.l) :: blk y.1.1 (.cells (StopsV.mk (KeysV.mk ⟨y.2.1.a, y.2.1.c, y.2.1.ls⟩ ⟨none, 0, 0⟩) (ViewV.mk num (mk : Int)) (some y.1.2)).cells 139 (0, 0)) :: blk y.1.2 (mapO encI encI [] 0) :: dat y.2.2 (Deep.leads (PS.mk y.2.1.a y.2.1.c y.2.1.ls)) :: H) := by
 refine CT_intro Tryz.func22 rfl Tryz.ntmps22 rfl ?_
 refine T2 ?_
 refine ze rfl (Ef_boxN rfl (fun b2 => ?_))
 refine ze rfl (Ef_boxN rfl (fun b3 => ?_))
 refine zq (za (.pointer _) rfl) rfl (T4 ?_)
 refine ze rfl (Ef_allocN (fun b5 => ?_))
 refine TX (zS (T2 ?_))
 refine zq (zf 0 rfl rfl) rfl (zq (zl rfl) rfl (zq (zL rfl Tryz.underlying28) rfl (Qmi rfl rfl (TX (zB ?_)))))
 refine T_loop [7, 11, 12, 13, 14, 15, 16, 17, 18, 19, 20, 21, 22] [11] (fun us H' => ∃ (k : Nat) (a : Option Addr) (c : Nat) (os : List BS) (fp : List Nat), us = [.int .i64 (k : Int)] ∧ row (.slice a (os).length c) 33 1 ((os).map BS.val) :: eachA fp os :: blk b5 (.cells (KeysV.mk ⟨a, c, os⟩ ⟨none, 0, 0⟩).cells 40 (0, 0)) :: blk b2 (.cells (KeysV.mk ⟨sa, sc, ls⟩ rt).cells 40 (0, 0)) :: blk b3 (.cells (ViewV.mk num (mk : Int)).cells 24 (0, 0)) :: H = H' ∧ k ≤ ls.length ∧ (os.map BS.l = (ls.map BS.l).take k) ∧ (os.length = k)) (fun us => match us with | .int _ i :: _ => ls.length - i.toNat | _ => 0) ⟨0, none, 0, [], [], rfl, rfl, by omega, rfl, rfl⟩ (fun w hw => by
  have h0 : St w0 (blk b5 (.cells (KeysV.mk ⟨none, 0, []⟩ ⟨none, 0, 0⟩).cells 40 (0, 0)) :: blk b2 (.cells (KeysV.mk ⟨sa, sc, ls⟩ rt).cells 40 (0, 0)) :: blk b3 (.cells (ViewV.mk num (mk : Int)).cells 24 (0, 0)) :: H) w := SB w hw
  exact (h0.eachNil).addNil 33 1) ?_
 rintro τ0 _ _  ⟨k, a, c, os, fp, rfl, rfl, hk0, hos, hol⟩ _
 refine T2 (zq (Qt_lss rfl rfl) rfl (TX (zS ?_)))
 refine zC rfl (fun h12 => ?_) (fun h12 => ?_)
 ·
  have p12 := h12
  try simp only [dp] at p12
  have hk : k < ls.length := by omega
  refine zk (zx (zS (zB (T2 ?_))))
  refine zq (Qt_indexR rfl rfl (by omega) (by simp; omega)) rfl (zq (Qt_loadR (.slice _ _ _) rfl (vals_get _ _ hk)) rfl (Qas rfl rfl (TX (T_drawF H (by kernel_rfl) SB (DLF_q (i := 0) (by kernel_rfl) rfl (by kernel_rfl) (by kernel_rfl) (zf 0 rfl rfl) rfl ?_)))))
  refine DLF_q (i := 2) (by kernel_rfl) rfl (by kernel_rfl) (by kernel_rfl) (zm (.slice _ _ _) rfl) rfl ?_
  refine DLF_2 (i := 1) (j := 3) (by kernel_rfl) ?_ ?_
  ·
   refine DLS_e rfl rfl (Ef_of_Qt (zl rfl) ⟨SB, ?_⟩)
   refine DLF_1 (i := 3) (by kernel_rfl) ?_
   have : RdB w0 H (.slice ls[k].a ls[k].l.length ls[k].c) ls[k].l := rke.get (List.getElem_mem hk)
   refine DLS_e rfl rfl (zc (clone_c (by have := hkl _ (List.getElem_mem hk); omega)) rfl (fun x18 => ⟨SB, ?_⟩))
   refine DLF_1 (i := 4) (by kernel_rfl) ?_
   refine DLS_e rfl rfl (Ef_slice1 (v := .slice _ _ _) rfl (fun a19 c19 => ⟨SB, ?_⟩))
   refine DLF_1 (i := 5) (by kernel_rfl) ?_
   refine DLS_e rfl rfl (Ef_appendP (sv := .slice _ _ _) (xv := .slice _ _ _) ⟨x18.a, x18.c, ls[k].l⟩ rfl rfl (by omega) rfl (fun a20 c20 => ⟨SB, ?_⟩))
   refine DLF_q (i := 6) (by kernel_rfl) rfl (by kernel_rfl) (by kernel_rfl) (zf 0 rfl rfl) rfl ?_
   refine DLF_1 (i := 7) (by kernel_rfl) ?_
   refine DLS_n rfl (Ef_store1 (.slice _ _ _) rfl rfl (⟨SB, ?_⟩))
   refine DLF_nil (by kernel_rfl) ?_
   refine X_block (zx (zR ?_))
   refine zq (Qt_add rfl rfl (by omega) (by omega)) rfl (Qmi rfl rfl (zz ?_))
   apply X_loop
   case ha => exact (by repeat (first | with_reducible exact agree_refl | refine agree_upd rfl ?_ | refine agree_mix rfl ?_ | refine agree_setAll rfl ?_))
   case hI => exact ⟨k + 1, a20, c20, os ++ [⟨x18.a, x18.c, ls[k].l⟩], rowFp (.slice x18.a ls[k].l.length x18.c) ++ fp, rfl, rfl, by omega, by rw [List.map_append, hos, take_get _ _ (by simpa using hk)]; simp, by simp [hol]⟩
   case hm => exact by show ls.length - (k + 1 : Int).toNat < ls.length - (k : Int).toNat; omega
   case hH => exact fun w hw => eachUnder (SB w hw : St w0 (row (.slice a20 (os ++ [(⟨x18.a, x18.c, ls[k].l⟩ : BS)]).length c20) 33 1 ((os ++ [(⟨x18.a, x18.c, ls[k].l⟩ : BS)]).map BS.val) :: row (BS.val ⟨x18.a, x18.c, ls[k].l⟩) 5 1 (bytesV (BS.l ⟨x18.a, x18.c, ls[k].l⟩)) :: eachA fp os :: blk b5 (.cells (KeysV.mk ⟨a20, c20, os ++ [⟨x18.a, x18.c, ls[k].l⟩]⟩ ⟨none, 0, 0⟩).cells 40 (0, 0)) :: blk b2 (.cells (KeysV.mk ⟨sa, sc, ls⟩ rt).cells 40 (0, 0)) :: blk b3 (.cells (ViewV.mk num (mk : Int)).cells 24 (0, 0)) :: H) w)
  have : RdB w0 H (.slice ls[k].a ls[k].l.length ls[k].c) ls[k].l := rke.get (List.getElem_mem hk)
  refine DLS_e rfl rfl (zc (clone_c (by have := hkl _ (List.getElem_mem hk); omega)) rfl (fun x18 => ⟨SB, ?_⟩))
  refine DLF_2 (i := 1) (j := 4) (by kernel_rfl) ?_ ?_
  ·
   refine DLS_e rfl rfl (Ef_of_Qt (zl rfl) ⟨SB, ?_⟩)
   refine DLF_1 (i := 4) (by kernel_rfl) ?_
   refine DLS_e rfl rfl (Ef_slice1 (v := .slice _ _ _) rfl (fun a19 c19 => ⟨SB, ?_⟩))
   refine DLF_1 (i := 5) (by kernel_rfl) ?_
   refine DLS_e rfl rfl (Ef_appendP (sv := .slice _ _ _) (xv := .slice _ _ _) ⟨x18.a, x18.c, ls[k].l⟩ rfl rfl (by omega) rfl (fun a20 c20 => ⟨SB, ?_⟩))
   refine DLF_q (i := 6) (by kernel_rfl) rfl (by kernel_rfl) (by kernel_rfl) (zf 0 rfl rfl) rfl ?_
   refine DLF_1 (i := 7) (by kernel_rfl) ?_
   refine DLS_n rfl (Ef_store1 (.slice _ _ _) rfl rfl (⟨SB, ?_⟩))
   refine DLF_nil (by kernel_rfl) ?_
   refine X_block (zx (zR ?_))
   refine zq (Qt_add rfl rfl (by omega) (by omega)) rfl (Qmi rfl rfl (zz ?_))
   apply X_loop
   case ha => exact (by repeat (first | with_reducible exact agree_refl | refine agree_upd rfl ?_ | refine agree_mix rfl ?_ | refine agree_setAll rfl ?_))
   case hI => exact ⟨k + 1, a20, c20, os ++ [⟨x18.a, x18.c, ls[k].l⟩], rowFp (.slice x18.a ls[k].l.length x18.c) ++ fp, rfl, rfl, by omega, by rw [List.map_append, hos, take_get _ _ (by simpa using hk)]; simp, by simp [hol]⟩
   case hm => exact by show ls.length - (k + 1 : Int).toNat < ls.length - (k : Int).toNat; omega
   case hH => exact fun w hw => eachUnder (SB w hw : St w0 (row (.slice a20 (os ++ [(⟨x18.a, x18.c, ls[k].l⟩ : BS)]).length c20) 33 1 ((os ++ [(⟨x18.a, x18.c, ls[k].l⟩ : BS)]).map BS.val) :: row (BS.val ⟨x18.a, x18.c, ls[k].l⟩) 5 1 (bytesV (BS.l ⟨x18.a, x18.c, ls[k].l⟩)) :: eachA fp os :: blk b5 (.cells (KeysV.mk ⟨a20, c20, os ++ [⟨x18.a, x18.c, ls[k].l⟩]⟩ ⟨none, 0, 0⟩).cells 40 (0, 0)) :: blk b2 (.cells (KeysV.mk ⟨sa, sc, ls⟩ rt).cells 40 (0, 0)) :: blk b3 (.cells (ViewV.mk num (mk : Int)).cells 24 (0, 0)) :: H) w)
  refine DLS_e rfl rfl (Ef_slice1 (v := .slice _ _ _) rfl (fun a19 c19 => ⟨SB, ?_⟩))
  refine DLF_1 (i := 1) (by kernel_rfl) ?_
  refine DLS_e rfl rfl (Ef_of_Qt (zl rfl) ⟨SB, ?_⟩)
  refine DLF_1 (i := 5) (by kernel_rfl) ?_
  refine DLS_e rfl rfl (Ef_appendP (sv := .slice _ _ _) (xv := .slice _ _ _) ⟨x18.a, x18.c, ls[k].l⟩ rfl rfl (by omega) rfl (fun a20 c20 => ⟨SB, ?_⟩))
  refine DLF_q (i := 6) (by kernel_rfl) rfl (by kernel_rfl) (by kernel_rfl) (zf 0 rfl rfl) rfl ?_
  refine DLF_1 (i := 7) (by kernel_rfl) ?_
  refine DLS_n rfl (Ef_store1 (.slice _ _ _) rfl rfl (⟨SB, ?_⟩))
  refine DLF_nil (by kernel_rfl) ?_
  refine X_block (zx (zR ?_))
  refine zq (Qt_add rfl rfl (by omega) (by omega)) rfl (Qmi rfl rfl (zz ?_))
  apply X_loop
  case ha => exact (by repeat (first | with_reducible exact agree_refl | refine agree_upd rfl ?_ | refine agree_mix rfl ?_ | refine agree_setAll rfl ?_))
  case hI => exact ⟨k + 1, a20, c20, os ++ [⟨x18.a, x18.c, ls[k].l⟩], rowFp (.slice x18.a ls[k].l.length x18.c) ++ fp, rfl, rfl, by omega, by rw [List.map_append, hos, take_get _ _ (by simpa using hk)]; simp, by simp [hol]⟩
  case hm => exact by show ls.length - (k + 1 : Int).toNat < ls.length - (k : Int).toNat; omega
  case hH => exact fun w hw => eachUnder (SB w hw : St w0 (row (.slice a20 (os ++ [(⟨x18.a, x18.c, ls[k].l⟩ : BS)]).length c20) 33 1 ((os ++ [(⟨x18.a, x18.c, ls[k].l⟩ : BS)]).map BS.val) :: row (BS.val ⟨x18.a, x18.c, ls[k].l⟩) 5 1 (bytesV (BS.l ⟨x18.a, x18.c, ls[k].l⟩)) :: eachA fp os :: blk b5 (.cells (KeysV.mk ⟨a20, c20, os ++ [⟨x18.a, x18.c, ls[k].l⟩]⟩ ⟨none, 0, 0⟩).cells 40 (0, 0)) :: blk b2 (.cells (KeysV.mk ⟨sa, sc, ls⟩ rt).cells 40 (0, 0)) :: blk b3 (.cells (ViewV.mk num (mk : Int)).cells 24 (0, 0)) :: H) w)
 have p12 := h12
 try simp only [dp] at p12
 have hos : os.map BS.l = ls.map BS.l := by rw [hos]; exact List.take_of_length_le (by simp; omega)
 refine zY (zG (zW (zE (zx (T2 ?_)))))
 refine zq (zn rfl rfl) rfl (zq (zn rfl rfl) rfl ?_)
 refine ze rfl (Ef_makeMap encI encI (fun r25 => ?_))
 refine zq (Qt_build [(0, (.agg _)), (1, (.agg _)), (2, (.map _))] rfl (by kernel_rfl)) rfl ?_
 refine ze rfl (Ef_boxN rfl (fun b27 => ?_))
 refine zq (za (.pointer _) rfl) rfl (TX (zQ ?_))
 refine X_conv (fun w hw => St.datPS (a := a) (c := c) (ls := os) (fp := fp) (e := 33) (H := blk b27 (.cells (StopsV.mk (KeysV.mk ⟨a, c, os⟩ ⟨none, 0, 0⟩) (ViewV.mk num (mk : Int)) (some r25)).cells 139 (0, 0)) :: blk r25 (mapO encI encI [] 0) :: H) (SB w hw)) (fun fp2 => ?_)
 exact zX ((b27, r25), (⟨a, c, os⟩, fp2)) [_] Tryz.results22 ⟨rfl, trivial⟩ rfl (fun w hw => (SB w hw : St w0 (blk b27 (.cells (StopsV.mk (KeysV.mk ⟨a, c, os⟩ ⟨none, 0, 0⟩) (ViewV.mk num (mk : Int)) (some r25)).cells 139 (0, 0)) :: blk r25 (mapO encI encI [] 0) :: dat fp2 (Deep.leads (PS.mk a c os)) :: H) w).addPure hos)
end
section
open Go.RowKit Go.Sx
set_option maxRecDepth 100000
set_option linter.unusedSimpArgs false
set_option linter.unusedVariables false
abbrev EM := List (Ent Int Int)
def takeM (K : List (List UInt8)) (num : Int) (mk : Nat) (es : EM) (c : Nat) (l : List UInt8) : Int × EM × Nat :=
 if (openOfK K mk l).1 ≠ 0 then ((openOfK K mk l).1, es, c) else if (openOfK K mk l).2.kind ≠ 4 then (15, es, c) else if (openOfK K mk l).2.view ≠ num then (9, es, c)
 else if hasE es (openOfK K mk l).2.frm = true ∧ (openOfK K mk l).2.reg ≤ (getE es (openOfK K mk l).2.frm).getD 0 then (7, es, c)
 else (0, putE es (openOfK K mk l).2.frm (openOfK K mk l).2.reg c, clockE es (openOfK K mk l).2.frm c)
attribute [local irreducible] openOfK
set_option maxHeartbeats 1000000 in
theorem stake_c {w0 : World} {H : List SA} {p r c : Nat} {es : EM} {num : Int} {mk : Nat} (hmk : mk < 65536) {sa : Option Addr} {sc : Nat} {ls : List BS} {rt : Sl} [rk : RdC w0 H (.slice sa ls.length sc) 1 (ls.map BS.val)] [rke : RdE w0 H ls] (hkl : ∀ x ∈ ls, x.l.length ≤ 4294967000) {a : Option Addr} {l : List UInt8} {lc : Nat} [hr : RdB w0 H (.slice a l.length lc) l] (hl : l.length ≤ 4294960000) :
 CT Tryz.prog w0 (blk p (.cells (StopsV.mk (KeysV.mk ⟨sa, sc, ls⟩ rt) (ViewV.mk num (mk : Int)) (some r)).cells 139 (0, 0)) :: blk r (mapO encI encI es c) :: H) 24 [.pointer (some ⟨p, 0, none⟩), .slice a l.length lc] (α := Unit) (fun _ => .int .i64 (takeM (ls.map BS.l) num mk es c l).1) (fun _ => blk p (.cells (StopsV.mk (KeysV.mk ⟨sa, sc, ls⟩ rt) (ViewV.mk num (mk : Int)) (some r)).cells 139 (0, 0)) :: blk r (mapO encI encI (takeM (ls.map BS.l) num mk es c l).2.1 (takeM (ls.map BS.l) num mk es c l).2.2) :: H) := by
 refine CT_intro Tryz.func24 rfl Tryz.ntmps24 rfl ?_
 refine T2 (Qai rfl rfl (TX (zS (T2 ?_))))
 refine zq (zm (.pointer _) rfl) rfl (zq (Qt_ptr_nil rfl rfl Tryz.underlying77) rfl (TX (zC rfl (fun h10 => ?_) (fun h10 => ?_))))
 ·
  have p10 := h10
  try simp only [dp] at p10
  cases h10
 have p10 := h10
 try simp only [dp] at p10
 refine zk (zx (zS ?_))
 refine T_drawF (blk p (.cells (StopsV.mk (KeysV.mk ⟨sa, sc, ls⟩ rt) (ViewV.mk num (mk : Int)) (some r)).cells 139 (0, 0)) :: H) (by kernel_rfl) SB (DLF_q (i := 0) (by kernel_rfl) rfl (by kernel_rfl) (by kernel_rfl) (zm (.pointer _) rfl) rfl (DLF_q (i := 1) (by kernel_rfl) rfl (by kernel_rfl) (by kernel_rfl) (Qt_nilCheck rfl) rfl (DLF_q (i := 2) (by kernel_rfl) rfl (by kernel_rfl) (by kernel_rfl) (zf 0 rfl rfl) rfl (DLF_q (i := 3) (by kernel_rfl) rfl (by kernel_rfl) (by kernel_rfl) (zn rfl rfl) rfl (DLF_q (i := 4) (by kernel_rfl) rfl (by kernel_rfl) (by kernel_rfl) (zm (.pointer _) rfl) rfl ?_)))))
 refine DLF_q (i := 5) (by kernel_rfl) rfl (by kernel_rfl) (by kernel_rfl) (Qt_nilCheck rfl) rfl (DLF_q (i := 6) (by kernel_rfl) rfl (by kernel_rfl) (by kernel_rfl) (zf 2 rfl rfl) rfl (DLF_q (i := 7) (by kernel_rfl) rfl (by kernel_rfl) (by kernel_rfl) (zn rfl rfl) rfl (DLF_q (i := 8) (by kernel_rfl) rfl (by kernel_rfl) (by kernel_rfl) (zm (.slice _ _ _) rfl) rfl ?_)))
 refine DLF_2 (i := 9) (j := 13) (by kernel_rfl) ?_ ?_
 ·
  refine DLS_e rfl rfl (zc (openOf_c (sa := sa) (sc := sc) (ls := ls) (rt := rt) hmk hkl hl) rfl (fun x21 => ⟨SB, ?_⟩))
  refine DLF_pure (fun hx => ?_)
  have hfr : x21.1.frm = (openOfK (ls.map BS.l) mk l).2.frm := congrArg MsgD.frm hx
  have hkd : x21.1.kind = (openOfK (ls.map BS.l) mk l).2.kind := congrArg MsgD.kind hx
  have hvw : x21.1.view = (openOfK (ls.map BS.l) mk l).2.view := congrArg MsgD.view hx
  have hrg : x21.1.reg = (openOfK (ls.map BS.l) mk l).2.reg := congrArg MsgD.reg hx
  refine DLF_q (i := 10) (by kernel_rfl) rfl (by kernel_rfl) (by kernel_rfl) (zm (.tuple _) rfl) rfl (DLF_q (i := 11) (by kernel_rfl) rfl (by kernel_rfl) (by kernel_rfl) (Qt_extract rfl) rfl (DLF_q (i := 12) (by kernel_rfl) rfl (by kernel_rfl) (by kernel_rfl) (Qt_extract rfl) rfl ?_))
  refine DLF_1 (i := 13) (by kernel_rfl) ?_
  refine DLS_e rfl rfl (Ef_allocN (fun b5 => ⟨SB, ?_⟩))
  refine DLF_1 (i := 14) (by kernel_rfl) ?_
  refine DLS_n rfl (zs rfl rfl (⟨SB, ?_⟩))
  refine DLF_q (i := 15) (by kernel_rfl) rfl (by kernel_rfl) (by kernel_rfl) (za (.int .i64 _) rfl) rfl ?_
  refine DLF_nil (by kernel_rfl) ?_
  refine zx (zS ?_)
  refine T_draw (blk b5 (.cells x21.1.cells 82 (0, 0)) :: blk p (.cells (StopsV.mk (KeysV.mk ⟨sa, sc, ls⟩ rt) (ViewV.mk num (mk : Int)) (some r)).cells 139 (0, 0)) :: blk r (mapO encI encI es c) :: H) [(0, true), (1, true), (2, true), (3, true), (4, true), (5, true), (6, true), (7, true), (8, true), (9, true), (10, true), (11, true)] (by kernel_rfl) (by kernel_rfl) rfl (by kernel_rfl) SB (fun hns0 => ?_)
  refine zd hns0 rfl (zm (.pointer _) rfl) rfl (zd hns0 rfl (Qt_nilCheck rfl) rfl (zd hns0 rfl (zf 4 rfl rfl) rfl (zd hns0 rfl (zl rfl) rfl (zd hns0 rfl (zf 1 rfl rfl) rfl (zd hns0 rfl (zl rfl) rfl ?_)))))
  refine zd hns0 rfl (Qt_lookup2 (key := x21.1.frm) (enc := encI) (ev := encI) ((0 : Int)) rfl rfl Tryz.underlying137 ((inferInstance : TyZ Tryz.prog 3 (.int .i64 0)).ok)) rfl (zd hns0 rfl (zm (.tuple _) rfl) rfl (zd hns0 rfl (Qt_extract rfl) rfl (zd hns0 rfl (Qt_extract rfl) rfl (zd hns0 rfl (za (.int .i64 _) rfl) rfl (zd hns0 rfl (za (.bool _) rfl) rfl ?_)))))
  refine DL_nil (zx (zS (zB (T2 ?_))))
  refine Qmi rfl rfl (zq (Qt_neq rfl rfl) rfl (Qab rfl rfl (TX (zC rfl (fun h34 => ?_) (fun h34 => ?_)))))
  ·
   have p34 := h34
   try simp only [dp] at p34
   refine T2 (Qmi rfl rfl (Qai rfl rfl (TX (zQ (zb (zr ?_))))))
   have e : (takeM (ls.map BS.l) num mk es c l) = ((openOfK (ls.map BS.l) mk l).1, es, c) := by rw [takeM, if_pos (by simpa using h34)]
   rw [e]
   exact zX () [_] Tryz.results24 ⟨rfl, trivial⟩ rfl SB
  have p34 := h34
  try simp only [dp] at p34
  have hz : (openOfK (ls.map BS.l) mk l).1 = 0 := by simpa using h34
  refine T2 (zq (zf 0 rfl rfl) rfl (zq (zl rfl) rfl (zq (Qt_neq rfl rfl) rfl (Qab rfl rfl (TX ?_)))))
  refine zC rfl (fun h38 => ?_) (fun h38 => ?_)
  ·
   have p38 := h38
   try simp only [dp] at p38
   refine T2 (Qai rfl rfl (TX (zQ (zb (zr ?_)))))
   have e : (takeM (ls.map BS.l) num mk es c l) = (15, es, c) := by rw [takeM, if_neg (by omega), if_pos (by rw [← hkd]; simpa using h38)]
   rw [e]
   exact zX () [_] Tryz.results24 ⟨rfl, trivial⟩ rfl SB
  have p38 := h38
  try simp only [dp] at p38
  have hk4 : (openOfK (ls.map BS.l) mk l).2.kind = 4 := by rw [← hkd]; simpa using h38
  refine zS (T_draw (blk b5 (.cells x21.1.cells 82 (0, 0)) :: blk p (.cells (StopsV.mk (KeysV.mk ⟨sa, sc, ls⟩ rt) (ViewV.mk num (mk : Int)) (some r)).cells 139 (0, 0)) :: H) [(0, true), (1, true), (2, true), (3, true), (4, true), (5, true), (6, true), (7, true), (8, true)] (by kernel_rfl) (by kernel_rfl) rfl (by kernel_rfl) SB (fun hns1 => ?_))
  refine zd hns1 rfl (zf 2 rfl rfl) rfl (zd hns1 rfl (zl rfl) rfl (zd hns1 rfl (zm (.pointer _) rfl) rfl (zd hns1 rfl (Qt_nilCheck rfl) rfl (zd hns1 rfl (zf 2 rfl rfl) rfl (zd hns1 rfl (zf 2 rfl rfl) rfl ?_)))))
  refine zd hns1 rfl (zl rfl) rfl (zd hns1 rfl (Qt_neq rfl rfl) rfl (zd hns1 rfl (za (.bool _) rfl) rfl (DL_nil (zx (zC rfl (fun h42 => ?_) (fun h42 => ?_))))))
  ·
   have p42 := h42
   try simp only [dp] at p42
   refine T2 (Qai rfl rfl (TX (zQ (zb (zr ?_)))))
   have e : (takeM (ls.map BS.l) num mk es c l) = (9, es, c) := by rw [takeM, if_neg (by omega), if_neg (by omega), if_pos (by rw [← hvw]; simpa using h42)]
   rw [e]
   exact zX () [_] Tryz.results24 ⟨rfl, trivial⟩ rfl SB
  have p42 := h42
  try simp only [dp] at p42
  have hvn : (openOfK (ls.map BS.l) mk l).2.view = num := by rw [← hvw]; simpa using h42
  refine T2 (Qmb rfl rfl (Qmb rfl rfl ?_))
  refine TL_split 53 rfl (fun h53 => ?_) (fun h53 => ?_)
  ·
   have p53 := h53
   try simp only [dp] at p53
   refine zt rfl rfl h53 (zq (zf 3 rfl rfl) rfl (zt rfl rfl h53 (zq (zl rfl) rfl (zt rfl rfl h53 (Qmi rfl rfl ?_)))))
   refine zt rfl rfl h53 (zq (Qt_leq rfl rfl) rfl (zq (zT (.bool _) rfl h53 rfl) rfl (Qab rfl rfl (TX (zC rfl (fun h51 => ?_) (fun h51 => ?_))))))
   ·
    have p51 := h51
    try simp only [dp] at p51
    refine T2 (Qai rfl rfl (TX (zQ (zb (zr ?_)))))
    have e : (takeM (ls.map BS.l) num mk es c l) = (7, es, c) := by rw [takeM, if_neg (by omega), if_neg (by omega), if_neg (by omega), if_pos (by rw [← hfr, ← hrg]; exact ⟨h53, of_decide_eq_true h51⟩)]
    rw [e]
    exact zX () [_] Tryz.results24 ⟨rfl, trivial⟩ rfl SB
   have p51 := h51
   try simp only [dp] at p51
   refine zk (X_block (zx (zS ?_)))
   refine T_draw (blk b5 (.cells x21.1.cells 82 (0, 0)) :: blk p (.cells (StopsV.mk (KeysV.mk ⟨sa, sc, ls⟩ rt) (ViewV.mk num (mk : Int)) (some r)).cells 139 (0, 0)) :: H) [(0, true), (1, true), (2, true), (3, true), (4, true), (5, true), (6, true), (7, true), (8, false)] (by kernel_rfl) (by kernel_rfl) rfl (by kernel_rfl) SB (fun hns2 => ?_)
   refine zd hns2 rfl (zm (.pointer _) rfl) rfl (zd hns2 rfl (Qt_nilCheck rfl) rfl (zd hns2 rfl (zf 4 rfl rfl) rfl (zd hns2 rfl (zl rfl) rfl (zd hns2 rfl (zf 1 rfl rfl) rfl (zd hns2 rfl (zl rfl) rfl ?_)))))
   refine zd hns2 rfl (zf 3 rfl rfl) rfl (zd hns2 rfl (zl rfl) rfl ?_)
   refine DL_n rfl (Ef_mapUpdate (key := x21.1.frm) (enc := encI) (ev := encI) (x21.1.reg) rfl rfl rfl Tryz.underlying137 (⟨SB, ?_⟩))
   refine DL_nil (zx (T2 ?_))
   refine Qai rfl rfl (TX (zQ ?_))
   have e : (takeM (ls.map BS.l) num mk es c l) = (0, putE es x21.1.frm x21.1.reg c, clockE es x21.1.frm c) := by rw [takeM, if_neg (by omega), if_neg (by omega), if_neg (by omega), if_neg (by rw [← hfr, ← hrg]; rintro ⟨h1, h2⟩; simp_all <;> omega), hfr, hrg]
   rw [e]
   exact zX () [_] Tryz.results24 ⟨rfl, trivial⟩ rfl SB
  have p53 := h53
  try simp only [dp] at p53
  refine zp rfl rfl h53 rfl (zp rfl rfl h53 rfl (zp rfl rfl h53 rfl (zp rfl rfl h53 rfl (zq (zF (.bool _) rfl h53 rfl) rfl (Qab rfl rfl ?_)))))
  refine TX (T_cond_false rfl rfl (zk (X_block (zx (zS ?_)))))
  refine T_draw (blk b5 (.cells x21.1.cells 82 (0, 0)) :: blk p (.cells (StopsV.mk (KeysV.mk ⟨sa, sc, ls⟩ rt) (ViewV.mk num (mk : Int)) (some r)).cells 139 (0, 0)) :: H) [(0, true), (1, true), (2, true), (3, true), (4, true), (5, true), (6, true), (7, true), (8, false)] (by kernel_rfl) (by kernel_rfl) rfl (by kernel_rfl) SB (fun hns3 => ?_)
  refine zd hns3 rfl (zm (.pointer _) rfl) rfl (zd hns3 rfl (Qt_nilCheck rfl) rfl (zd hns3 rfl (zf 4 rfl rfl) rfl (zd hns3 rfl (zl rfl) rfl (zd hns3 rfl (zf 1 rfl rfl) rfl (zd hns3 rfl (zl rfl) rfl ?_)))))
  refine zd hns3 rfl (zf 3 rfl rfl) rfl (zd hns3 rfl (zl rfl) rfl ?_)
  refine DL_n rfl (Ef_mapUpdate (key := x21.1.frm) (enc := encI) (ev := encI) (x21.1.reg) rfl rfl rfl Tryz.underlying137 (⟨SB, ?_⟩))
  refine DL_nil (zx (T2 ?_))
  refine Qai rfl rfl (TX (zQ ?_))
  have e : (takeM (ls.map BS.l) num mk es c l) = (0, putE es x21.1.frm x21.1.reg c, clockE es x21.1.frm c) := by rw [takeM, if_neg (by omega), if_neg (by omega), if_neg (by omega), if_neg (by rw [← hfr, ← hrg]; rintro ⟨h1, h2⟩; simp_all <;> omega), hfr, hrg]
  rw [e]
  exact zX () [_] Tryz.results24 ⟨rfl, trivial⟩ rfl SB
 refine DLS_e rfl rfl (Ef_allocN (fun b5 => ⟨SB, ?_⟩))
 refine DLF_1 (i := 9) (by kernel_rfl) ?_
 refine DLS_e rfl rfl (zc (openOf_c (sa := sa) (sc := sc) (ls := ls) (rt := rt) hmk hkl hl) rfl (fun x21 => ⟨SB, ?_⟩))
 refine DLF_pure (fun hx => ?_)
 have hfr : x21.1.frm = (openOfK (ls.map BS.l) mk l).2.frm := congrArg MsgD.frm hx
 have hkd : x21.1.kind = (openOfK (ls.map BS.l) mk l).2.kind := congrArg MsgD.kind hx
 have hvw : x21.1.view = (openOfK (ls.map BS.l) mk l).2.view := congrArg MsgD.view hx
 have hrg : x21.1.reg = (openOfK (ls.map BS.l) mk l).2.reg := congrArg MsgD.reg hx
 refine DLF_q (i := 10) (by kernel_rfl) rfl (by kernel_rfl) (by kernel_rfl) (zm (.tuple _) rfl) rfl (DLF_q (i := 11) (by kernel_rfl) rfl (by kernel_rfl) (by kernel_rfl) (Qt_extract rfl) rfl (DLF_q (i := 12) (by kernel_rfl) rfl (by kernel_rfl) (by kernel_rfl) (Qt_extract rfl) rfl ?_))
 refine DLF_1 (i := 14) (by kernel_rfl) ?_
 refine DLS_n rfl (zs rfl rfl (⟨SB, ?_⟩))
 refine DLF_q (i := 15) (by kernel_rfl) rfl (by kernel_rfl) (by kernel_rfl) (za (.int .i64 _) rfl) rfl ?_
 refine DLF_nil (by kernel_rfl) ?_
 refine zx (zS ?_)
 refine T_draw (blk b5 (.cells x21.1.cells 82 (0, 0)) :: blk p (.cells (StopsV.mk (KeysV.mk ⟨sa, sc, ls⟩ rt) (ViewV.mk num (mk : Int)) (some r)).cells 139 (0, 0)) :: blk r (mapO encI encI es c) :: H) [(0, true), (1, true), (2, true), (3, true), (4, true), (5, true), (6, true), (7, true), (8, true), (9, true), (10, true), (11, true)] (by kernel_rfl) (by kernel_rfl) rfl (by kernel_rfl) SB (fun hns4 => ?_)
 refine zd hns4 rfl (zm (.pointer _) rfl) rfl (zd hns4 rfl (Qt_nilCheck rfl) rfl (zd hns4 rfl (zf 4 rfl rfl) rfl (zd hns4 rfl (zl rfl) rfl (zd hns4 rfl (zf 1 rfl rfl) rfl (zd hns4 rfl (zl rfl) rfl ?_)))))
 refine zd hns4 rfl (Qt_lookup2 (key := x21.1.frm) (enc := encI) (ev := encI) ((0 : Int)) rfl rfl Tryz.underlying137 ((inferInstance : TyZ Tryz.prog 3 (.int .i64 0)).ok)) rfl (zd hns4 rfl (zm (.tuple _) rfl) rfl (zd hns4 rfl (Qt_extract rfl) rfl (zd hns4 rfl (Qt_extract rfl) rfl (zd hns4 rfl (za (.int .i64 _) rfl) rfl (zd hns4 rfl (za (.bool _) rfl) rfl ?_)))))
 refine DL_nil (zx (zS (zB (T2 ?_))))
 refine Qmi rfl rfl (zq (Qt_neq rfl rfl) rfl (Qab rfl rfl (TX (zC rfl (fun h34 => ?_) (fun h34 => ?_)))))
 ·
  have p34 := h34
  try simp only [dp] at p34
  refine T2 (Qmi rfl rfl (Qai rfl rfl (TX (zQ (zb (zr ?_))))))
  have e : (takeM (ls.map BS.l) num mk es c l) = ((openOfK (ls.map BS.l) mk l).1, es, c) := by rw [takeM, if_pos (by simpa using h34)]
  rw [e]
  exact zX () [_] Tryz.results24 ⟨rfl, trivial⟩ rfl SB
 have p34 := h34
 try simp only [dp] at p34
 have hz : (openOfK (ls.map BS.l) mk l).1 = 0 := by simpa using h34
 refine T2 (zq (zf 0 rfl rfl) rfl (zq (zl rfl) rfl (zq (Qt_neq rfl rfl) rfl (Qab rfl rfl (TX ?_)))))
 refine zC rfl (fun h38 => ?_) (fun h38 => ?_)
 ·
  have p38 := h38
  try simp only [dp] at p38
  refine T2 (Qai rfl rfl (TX (zQ (zb (zr ?_)))))
  have e : (takeM (ls.map BS.l) num mk es c l) = (15, es, c) := by rw [takeM, if_neg (by omega), if_pos (by rw [← hkd]; simpa using h38)]
  rw [e]
  exact zX () [_] Tryz.results24 ⟨rfl, trivial⟩ rfl SB
 have p38 := h38
 try simp only [dp] at p38
 have hk4 : (openOfK (ls.map BS.l) mk l).2.kind = 4 := by rw [← hkd]; simpa using h38
 refine zS (T_draw (blk b5 (.cells x21.1.cells 82 (0, 0)) :: blk p (.cells (StopsV.mk (KeysV.mk ⟨sa, sc, ls⟩ rt) (ViewV.mk num (mk : Int)) (some r)).cells 139 (0, 0)) :: H) [(0, true), (1, true), (2, true), (3, true), (4, true), (5, true), (6, true), (7, true), (8, true)] (by kernel_rfl) (by kernel_rfl) rfl (by kernel_rfl) SB (fun hns5 => ?_))
 refine zd hns5 rfl (zf 2 rfl rfl) rfl (zd hns5 rfl (zl rfl) rfl (zd hns5 rfl (zm (.pointer _) rfl) rfl (zd hns5 rfl (Qt_nilCheck rfl) rfl (zd hns5 rfl (zf 2 rfl rfl) rfl (zd hns5 rfl (zf 2 rfl rfl) rfl ?_)))))
 refine zd hns5 rfl (zl rfl) rfl (zd hns5 rfl (Qt_neq rfl rfl) rfl (zd hns5 rfl (za (.bool _) rfl) rfl (DL_nil (zx (zC rfl (fun h42 => ?_) (fun h42 => ?_))))))
 ·
  have p42 := h42
  try simp only [dp] at p42
  refine T2 (Qai rfl rfl (TX (zQ (zb (zr ?_)))))
  have e : (takeM (ls.map BS.l) num mk es c l) = (9, es, c) := by rw [takeM, if_neg (by omega), if_neg (by omega), if_pos (by rw [← hvw]; simpa using h42)]
  rw [e]
  exact zX () [_] Tryz.results24 ⟨rfl, trivial⟩ rfl SB
 have p42 := h42
 try simp only [dp] at p42
 have hvn : (openOfK (ls.map BS.l) mk l).2.view = num := by rw [← hvw]; simpa using h42
 refine T2 (Qmb rfl rfl (Qmb rfl rfl ?_))
 refine TL_split 53 rfl (fun h53 => ?_) (fun h53 => ?_)
 ·
  have p53 := h53
  try simp only [dp] at p53
  refine zt rfl rfl h53 (zq (zf 3 rfl rfl) rfl (zt rfl rfl h53 (zq (zl rfl) rfl (zt rfl rfl h53 (Qmi rfl rfl ?_)))))
  refine zt rfl rfl h53 (zq (Qt_leq rfl rfl) rfl (zq (zT (.bool _) rfl h53 rfl) rfl (Qab rfl rfl (TX (zC rfl (fun h51 => ?_) (fun h51 => ?_))))))
  ·
   have p51 := h51
   try simp only [dp] at p51
   refine T2 (Qai rfl rfl (TX (zQ (zb (zr ?_)))))
   have e : (takeM (ls.map BS.l) num mk es c l) = (7, es, c) := by rw [takeM, if_neg (by omega), if_neg (by omega), if_neg (by omega), if_pos (by rw [← hfr, ← hrg]; exact ⟨h53, of_decide_eq_true h51⟩)]
   rw [e]
   exact zX () [_] Tryz.results24 ⟨rfl, trivial⟩ rfl SB
  have p51 := h51
  try simp only [dp] at p51
  refine zk (X_block (zx (zS ?_)))
  refine T_draw (blk b5 (.cells x21.1.cells 82 (0, 0)) :: blk p (.cells (StopsV.mk (KeysV.mk ⟨sa, sc, ls⟩ rt) (ViewV.mk num (mk : Int)) (some r)).cells 139 (0, 0)) :: H) [(0, true), (1, true), (2, true), (3, true), (4, true), (5, true), (6, true), (7, true), (8, false)] (by kernel_rfl) (by kernel_rfl) rfl (by kernel_rfl) SB (fun hns6 => ?_)
  refine zd hns6 rfl (zm (.pointer _) rfl) rfl (zd hns6 rfl (Qt_nilCheck rfl) rfl (zd hns6 rfl (zf 4 rfl rfl) rfl (zd hns6 rfl (zl rfl) rfl (zd hns6 rfl (zf 1 rfl rfl) rfl (zd hns6 rfl (zl rfl) rfl ?_)))))
  refine zd hns6 rfl (zf 3 rfl rfl) rfl (zd hns6 rfl (zl rfl) rfl ?_)
  refine DL_n rfl (Ef_mapUpdate (key := x21.1.frm) (enc := encI) (ev := encI) (x21.1.reg) rfl rfl rfl Tryz.underlying137 (⟨SB, ?_⟩))
  refine DL_nil (zx (T2 ?_))
  refine Qai rfl rfl (TX (zQ ?_))
  have e : (takeM (ls.map BS.l) num mk es c l) = (0, putE es x21.1.frm x21.1.reg c, clockE es x21.1.frm c) := by rw [takeM, if_neg (by omega), if_neg (by omega), if_neg (by omega), if_neg (by rw [← hfr, ← hrg]; rintro ⟨h1, h2⟩; simp_all <;> omega), hfr, hrg]
  rw [e]
  exact zX () [_] Tryz.results24 ⟨rfl, trivial⟩ rfl SB
 have p53 := h53
 try simp only [dp] at p53
 refine zp rfl rfl h53 rfl (zp rfl rfl h53 rfl (zp rfl rfl h53 rfl (zp rfl rfl h53 rfl (zq (zF (.bool _) rfl h53 rfl) rfl (Qab rfl rfl ?_)))))
 refine TX (T_cond_false rfl rfl (zk (X_block (zx (zS ?_)))))
 refine T_draw (blk b5 (.cells x21.1.cells 82 (0, 0)) :: blk p (.cells (StopsV.mk (KeysV.mk ⟨sa, sc, ls⟩ rt) (ViewV.mk num (mk : Int)) (some r)).cells 139 (0, 0)) :: H) [(0, true), (1, true), (2, true), (3, true), (4, true), (5, true), (6, true), (7, true), (8, false)] (by kernel_rfl) (by kernel_rfl) rfl (by kernel_rfl) SB (fun hns7 => ?_)
 refine zd hns7 rfl (zm (.pointer _) rfl) rfl (zd hns7 rfl (Qt_nilCheck rfl) rfl (zd hns7 rfl (zf 4 rfl rfl) rfl (zd hns7 rfl (zl rfl) rfl (zd hns7 rfl (zf 1 rfl rfl) rfl (zd hns7 rfl (zl rfl) rfl ?_)))))
 refine zd hns7 rfl (zf 3 rfl rfl) rfl (zd hns7 rfl (zl rfl) rfl ?_)
 refine DL_n rfl (Ef_mapUpdate (key := x21.1.frm) (enc := encI) (ev := encI) (x21.1.reg) rfl rfl rfl Tryz.underlying137 (⟨SB, ?_⟩))
 refine DL_nil (zx (T2 ?_))
 refine Qai rfl rfl (TX (zQ ?_))
 have e : (takeM (ls.map BS.l) num mk es c l) = (0, putE es x21.1.frm x21.1.reg c, clockE es x21.1.frm c) := by rw [takeM, if_neg (by omega), if_neg (by omega), if_neg (by omega), if_neg (by rw [← hfr, ← hrg]; rintro ⟨h1, h2⟩; simp_all <;> omega), hfr, hrg]
 rw [e]
 exact zX () [_] Tryz.results24 ⟨rfl, trivial⟩ rfl SB
end
section
open Go.RowKit Go.Sx
set_option maxRecDepth 100000
set_option linter.unusedSimpArgs false
set_option linter.unusedVariables false
def countE (es : EM) (reg : Int) : Nat := (es.filter fun e => decide (reg ≤ e.v)).length
theorem countE_le (es : EM) (reg : Int) : countE es reg ≤ es.length := List.length_filter_le _ _
theorem split_one (f : Ent Int Int → Bool) : ∀ (L : EM) (e : Ent Int Int), (L.map (·.b)).Nodup → e ∈ L → (L.filter f).length = (bif f e then 1 else 0) + ((L.filter fun x => !(x.b == e.b)).filter f).length
 | [], e, _, he => by cases he
 | x :: L, e, hn, he => by
  simp only [List.map_cons, List.nodup_cons] at hn
  rcases List.mem_cons.1 he with rfl | he
  · have h1 : L.filter (fun x => !(x.b == e.b)) = L := List.filter_eq_self.2 fun y hy => by
     have : y.b ≠ e.b := fun h => hn.1 (h ▸ List.mem_map.2 ⟨y, hy, rfl⟩)
     simpa using this
    rw [List.filter_cons (p := fun x : Ent Int Int => !(x.b == e.b))]
    simp only [beq_self_eq_true, Bool.not_true, Bool.false_eq_true, if_false, h1, List.filter_cons]
    cases f e <;> simp [Nat.add_comm]
  · have hne : x.b ≠ e.b := fun h => hn.1 (h ▸ List.mem_map.2 ⟨e, he, rfl⟩)
    have ih := split_one f L e hn.2 he
    rw [List.filter_cons (p := fun x : Ent Int Int => !(x.b == e.b))]
    simp only [show (!(x.b == e.b)) = true from by simpa using hne, if_true, List.filter_cons]
    cases f x
    · simp only [Bool.false_eq_true, if_false]; exact ih
    · simp only [if_true, List.length_cons]; omega
theorem leftE_push (es : EM) (seen : Array Nat) (b : Nat) : leftE es (seen.push b) = (leftE es seen).filter fun x => !(x.b == b) := by
 unfold leftE
 rw [List.filter_filter]
 congr 1
 funext x
 simp only [Array.contains_push, Bool.not_or]
 cases seen.contains x.b <;> cases h : (x.b == b) <;> simp_all
theorem left_nodup {es : EM} {seen : Array Nat} (h : (es.map (·.b)).Nodup) : ((leftE es seen).map (·.b)).Nodup := by
 unfold leftE
 exact h.sublist (List.filter_sublist.map _)
theorem left_less {es : EM} {seen : Array Nat} {e : Ent Int Int} (h : (es.map (·.b)).Nodup) (he : e ∈ leftE es seen) : (leftE es (seen.push e.b)).length < (leftE es seen).length := by
 have := split_one (fun _ => true) _ e (left_nodup (seen := seen) h) he
 rw [leftE_push]
 have e1 : ∀ l : EM, l.filter (fun _ => true) = l := fun l => List.filter_eq_self.2 (fun _ _ => rfl)
 rw [e1, e1] at this
 simp only [cond_true] at this
 omega
theorem left_count {es : EM} {seen : Array Nat} {e : Ent Int Int} (h : (es.map (·.b)).Nodup) (he : e ∈ leftE es seen) (reg : Int) : countE (leftE es seen) reg = (if reg ≤ e.v then 1 else 0) + countE (leftE es (seen.push e.b)) reg := by
 have := split_one (fun x => decide (reg ≤ x.v)) _ e (left_nodup (seen := seen) h) he
 unfold countE
 rw [leftE_push, this]
 by_cases h1 : reg ≤ e.v <;> simp [h1]
theorem left_all (es : EM) : leftE es #[] = es := by simp [leftE]
/-- What greatest answers. -/
def Gr (es : EM) (above many x : Int) : Prop := (x = -1 ∨ (above < x ∧ 0 ≤ x ∧ x ≤ 40 ∧ 0 < many ∧ many ≤ (countE es x : Int))) ∧ ∀ q : Int, x < q → above < q → 0 ≤ q → q ≤ 40 → ¬ (0 < many ∧ many ≤ (countE es q : Int))

set_option maxHeartbeats 1000000 in
theorem scount_c {w0 : World} {H : List SA} {p r c : Nat} {es : EM} {num : Int} {mk : Nat} {sa : Option Addr} {sc : Nat} {ls : List BS} {rt : Sl} (hg : GoodM es c) (hes : es.length ≤ 100000) {reg : Int} :
 CT Tryz.prog w0 (blk p (.cells (StopsV.mk (KeysV.mk ⟨sa, sc, ls⟩ rt) (ViewV.mk num (mk : Int)) (some r)).cells 139 (0, 0)) :: blk r (mapO encI encI es c) :: H) 27 [.pointer (some ⟨p, 0, none⟩), .int .i64 reg] (α := Unit) (fun _ => .int .i64 (countE es reg : Int)) (fun _ => blk p (.cells (StopsV.mk (KeysV.mk ⟨sa, sc, ls⟩ rt) (ViewV.mk num (mk : Int)) (some r)).cells 139 (0, 0)) :: blk r (mapO encI encI es c) :: H) := by
 refine CT_intro Tryz.func27 rfl Tryz.ntmps27 rfl ?_
 refine T2 (Qai rfl rfl (TX (zS (T2 ?_))))
 refine zq (zm (.pointer _) rfl) rfl (zq (Qt_ptr_nil rfl rfl Tryz.underlying77) rfl (TX (zC rfl (fun h9 => ?_) (fun h9 => ?_))))
 ·
  have p9 := h9
  try simp only [dp] at p9
  cases h9
 have p9 := h9
 try simp only [dp] at p9
 refine S4 (Qai rfl rfl (TX (zS (T2 ?_))))
 refine zq (zm (.pointer _) rfl) rfl (zq (Qt_nilCheck rfl) rfl (zq (zf 4 rfl rfl) rfl (zq (zl rfl) rfl ?_)))
 refine ze rfl (Ef_range rfl Tryz.underlying137 (fun it14 => ?_))
 refine TX (zB ?_)
 refine T_loopg (m0 := (leftE es #[]).length) [5, 7, 15, 16, 17, 18, 19, 20, 21, 22, 23] [5] (fun us H' m => ∃ (n : Nat) (seen : Array Nat), us = [.int .i64 (n : Int)] ∧ blk it14 (.mapIter (some r) c seen c) :: blk p (.cells (StopsV.mk (KeysV.mk ⟨sa, sc, ls⟩ rt) (ViewV.mk num (mk : Int)) (some r)).cells 139 (0, 0)) :: blk r (mapO encI encI es c) :: H = H' ∧ m = (leftE es seen).length ∧ n + countE (leftE es seen) reg = countE es reg) ⟨0, #[], rfl, rfl, rfl, by rw [left_all, Nat.zero_add]⟩ SB ?_
 rintro τ0 _ _ m ⟨n, seen, rfl, rfl, rfl, hn⟩ _
 refine T2 ?_
 refine ze rfl (Ef_next rfl hg.lt hg.lt (fun hz15 => ?_) (fun en15 hen15 => ?_))
 ·
  rw [hz15] at hn
  have hn2 : n = countE es reg := hn
  rw [hn2]
  refine zq (Qt_extract rfl) rfl (TX (zS ?_))
  refine T_cond_false rfl rfl (zY (zG (X_loopg_exit (zE (zx (T2 ?_))))))
  refine Qmi rfl rfl (Qai rfl rfl (TX (zQ ?_)))
  exact zX () [_] Tryz.results27 ⟨rfl, trivial⟩ rfl SB
 have hmem : en15 ∈ es := (List.mem_filter.1 hen15).1
 refine zq (Qt_extract rfl) rfl (TX (zS ?_))
 refine T_cond_true rfl rfl (zk (zx (zB (T2 ?_))))
 refine zq (Qt_entry en15 rfl hmem hg.born) rfl (zq (Qt_extract rfl) rfl (Qai rfl rfl (T4 (Qmi rfl rfl (Qmi rfl rfl ?_)))))
 refine zq (Qt_geq rfl rfl) rfl (TX (zC rfl (fun h21 => ?_) (fun h21 => ?_)))
 ·
  have p21 := h21
  try simp only [dp] at p21
  refine zR (Qmi rfl rfl ?_)
  have hb1 := countE_le es reg
  have hb2 := left_count hg.born hen15 reg
  rw [if_pos (by omega)] at hb2
  refine zq (Qt_val (Qt_add rfl rfl (by omega) (by omega)) (congrArg (Value.int .i64) (show (n : Int) + 1 = ((n + 1 : Nat) : Int) from by omega))) rfl (Qai rfl rfl (zz (X_block ?_)))
  refine X_loopg _ (by repeat (first | with_reducible exact agree_refl | refine agree_upd rfl ?_ | refine agree_mix rfl ?_ | refine agree_setAll rfl ?_)) (⟨_, seen.push en15.b, rfl, rfl, rfl, by have := left_count hg.born hen15 reg; first | (rw [if_pos (by omega)] at this; omega) | (rw [if_neg (by omega)] at this; omega)⟩) (left_less hg.born hen15) (SB)
 have p21 := h21
 try simp only [dp] at p21
 refine zk (X_block ?_)
 refine X_loopg _ (by repeat (first | with_reducible exact agree_refl | refine agree_upd rfl ?_ | refine agree_mix rfl ?_ | refine agree_setAll rfl ?_)) (⟨_, seen.push en15.b, rfl, rfl, rfl, by have := left_count hg.born hen15 reg; first | (rw [if_pos (by omega)] at this; omega) | (rw [if_neg (by omega)] at this; omega)⟩) (left_less hg.born hen15) (SB)
set_option maxHeartbeats 1000000 in
theorem sgreat_c {w0 : World} {H : List SA} {p r c : Nat} {es : EM} {num : Int} {mk : Nat} {sa : Option Addr} {sc : Nat} {ls : List BS} {rt : Sl} (hg : GoodM es c) (hes : es.length ≤ 100000) {above many : Int} :
 CT Tryz.prog w0 (blk p (.cells (StopsV.mk (KeysV.mk ⟨sa, sc, ls⟩ rt) (ViewV.mk num (mk : Int)) (some r)).cells 139 (0, 0)) :: blk r (mapO encI encI es c) :: H) 55 [.pointer (some ⟨p, 0, none⟩), .int .i64 above, .int .i64 many] (α := Int) (fun x => .int .i64 x) (fun x => pu (Gr es above many x) :: blk p (.cells (StopsV.mk (KeysV.mk ⟨sa, sc, ls⟩ rt) (ViewV.mk num (mk : Int)) (some r)).cells 139 (0, 0)) :: blk r (mapO encI encI es c) :: H) := by
 refine CT_intro Tryz.func55 rfl Tryz.ntmps55 rfl ?_
 refine T2 (Qai rfl rfl (TX (zS (T2 ?_))))
 refine Qai rfl rfl (TX (zB ?_))
 refine T_loop [6, 7, 8, 9, 10, 11, 12, 13, 14, 15, 16, 17, 18, 19, 20, 21, 22, 23, 24, 25, 26] [7] (fun us H' => ∃ (x : Int), us = [.int .i64 x] ∧ blk p (.cells (StopsV.mk (KeysV.mk ⟨sa, sc, ls⟩ rt) (ViewV.mk num (mk : Int)) (some r)).cells 139 (0, 0)) :: blk r (mapO encI encI es c) :: H = H' ∧ -1 ≤ x ∧ x ≤ 40 ∧ ∀ q : Int, x < q → above < q → 0 ≤ q → q ≤ 40 → ¬ (0 < many ∧ many ≤ (countE es q : Int))) (fun us => match us with | .int _ i :: _ => (i + 1).toNat | _ => 0) ⟨40, rfl, rfl, by omega, by omega, fun q h1 _ _ h2 => by omega⟩ SB ?_
 rintro τ0 _ _  ⟨x, rfl, rfl, hx0, hx1, hq⟩ _
 refine zS (T2 ?_)
 refine Qmi rfl rfl (Qmi rfl rfl (zq (Qt_gtr rfl rfl) rfl (Qmb rfl rfl ?_)))
 refine TL_split 11 rfl (fun h11 => ?_) (fun h11 => ?_)
 ·
  have p11 := h11
  try simp only [dp] at p11
  refine zt rfl rfl h11 (Qmi rfl rfl (zt rfl rfl h11 (zq (Qt_geq rfl rfl) rfl (zq (zT (.bool _) rfl h11 rfl) rfl (TX ?_)))))
  refine zC rfl (fun h14 => ?_) (fun h14 => ?_)
  ·
   have p14 := h14
   try simp only [dp] at p14
   refine zk (zx (zS (zB (T2 ?_))))
   refine Qmi rfl rfl (zq (Qt_gtr rfl rfl) rfl (Qmb rfl rfl ?_))
   refine TL_split 19 rfl (fun h19 => ?_) (fun h19 => ?_)
   ·
    have p19 := h19
    try simp only [dp] at p19
    refine zt rfl rfl h19 (zq (zm (.pointer _) rfl) rfl (zt rfl rfl h19 (Qmi rfl rfl (zt rfl rfl h19 ?_))))
    refine ze rfl (zc (scount_c hg hes) rfl (fun x22 => ?_))
    refine zt rfl rfl h19 (Qmi rfl rfl (zt rfl rfl h19 (zq (Qt_geq rfl rfl) rfl (zq (zT (.bool _) rfl h19 rfl) rfl (TX ?_)))))
    refine zC rfl (fun h25 => ?_) (fun h25 => ?_)
    ·
     have p25 := h25
     try simp only [dp] at p25
     refine T2 (Qmi rfl rfl (Qai rfl rfl (TX (zQ (zb (zr (X_loop_ret (zb (zr ?_)))))))))
     exact zX x [_] Tryz.results55 ⟨rfl, trivial⟩ rfl (fun w hw => (SB w hw : St w0 (blk p (.cells (StopsV.mk (KeysV.mk ⟨sa, sc, ls⟩ rt) (ViewV.mk num (mk : Int)) (some r)).cells 139 (0, 0)) :: blk r (mapO encI encI es c) :: H) w).addPure ⟨.inr ⟨by omega, by omega, by omega, by omega, by omega⟩, hq⟩)
    have p25 := h25
    try simp only [dp] at p25
    refine zk (X_block (zx (zR ?_)))
    refine Qmi rfl rfl (zq (Qt_sub rfl rfl (by omega) (by omega)) rfl (Qai rfl rfl (zz (X_loop _ (by repeat (first | with_reducible exact agree_refl | refine agree_upd rfl ?_ | refine agree_mix rfl ?_ | refine agree_setAll rfl ?_)) (⟨x - 1, rfl, rfl, by omega, by omega, fun q h1 h2 h3 h4 => by rcases Int.lt_or_le x q with h5 | h5; exact hq q h5 h2 h3 h4; obtain rfl : q = x := (by omega); omega⟩) (by show (x - 1 + 1).toNat < (x + 1).toNat; omega) (SB)))))
   have p19 := h19
   try simp only [dp] at p19
   refine zp rfl rfl h19 rfl (zp rfl rfl h19 rfl (zp rfl rfl h19 rfl (zp rfl rfl h19 rfl (zp rfl rfl h19 rfl (zq (zF (.bool _) rfl h19 rfl) rfl ?_)))))
   refine TX (T_cond_false rfl rfl (zk (X_block (zx (zR ?_)))))
   refine Qmi rfl rfl (zq (Qt_sub rfl rfl (by omega) (by omega)) rfl (Qai rfl rfl (zz (X_loop _ (by repeat (first | with_reducible exact agree_refl | refine agree_upd rfl ?_ | refine agree_mix rfl ?_ | refine agree_setAll rfl ?_)) (⟨x - 1, rfl, rfl, by omega, by omega, fun q h1 h2 h3 h4 => by rcases Int.lt_or_le x q with h5 | h5; exact hq q h5 h2 h3 h4; obtain rfl : q = x := (by omega); omega⟩) (by show (x - 1 + 1).toNat < (x + 1).toNat; omega) (SB)))))
  have p14 := h14
  try simp only [dp] at p14
  refine zY (zG (zW (zE (zx (T2 ?_)))))
  refine Qai rfl rfl (TX (zQ ?_))
  exact zX (-1) [_] Tryz.results55 ⟨rfl, trivial⟩ rfl (fun w hw => (SB w hw : St w0 (blk p (.cells (StopsV.mk (KeysV.mk ⟨sa, sc, ls⟩ rt) (ViewV.mk num (mk : Int)) (some r)).cells 139 (0, 0)) :: blk r (mapO encI encI es c) :: H) w).addPure ⟨.inl rfl, fun q h1 h2 h3 h4 => by rcases Int.lt_or_le x q with h5 | h5; exact hq q h5 h2 h3 h4; omega⟩)
 have p11 := h11
 try simp only [dp] at p11
 refine zp rfl rfl h11 rfl (zp rfl rfl h11 rfl (zq (zF (.bool _) rfl h11 rfl) rfl (TX (T_cond_false rfl rfl (zY (zG (zW (zE (zx (T2 ?_))))))))))
 refine Qai rfl rfl (TX (zQ ?_))
 exact zX (-1) [_] Tryz.results55 ⟨rfl, trivial⟩ rfl (fun w hw => (SB w hw : St w0 (blk p (.cells (StopsV.mk (KeysV.mk ⟨sa, sc, ls⟩ rt) (ViewV.mk num (mk : Int)) (some r)).cells 139 (0, 0)) :: blk r (mapO encI encI es c) :: H) w).addPure ⟨.inl rfl, fun q h1 h2 h3 h4 => by rcases Int.lt_or_le x q with h5 | h5; exact hq q h5 h2 h3 h4; omega⟩)
set_option maxHeartbeats 1000000 in
theorem ssome_c {w0 : World} {H : List SA} {p r c : Nat} {es : EM} {num : Int} {mk : Nat} {sa : Option Addr} {sc : Nat} {ls : List BS} {rt : Sl} (hg : GoodM es c) (hes : es.length ≤ 100000) (hmk : mk < 65536) {above : Int} :
 CT Tryz.prog w0 (blk p (.cells (StopsV.mk (KeysV.mk ⟨sa, sc, ls⟩ rt) (ViewV.mk num (mk : Int)) (some r)).cells 139 (0, 0)) :: blk r (mapO encI encI es c) :: H) 25 [.pointer (some ⟨p, 0, none⟩), .int .i64 above] (α := Int) (fun x => .int .i64 x) (fun x => pu (Gr es above (someV num mk : Int) x) :: blk p (.cells (StopsV.mk (KeysV.mk ⟨sa, sc, ls⟩ rt) (ViewV.mk num (mk : Int)) (some r)).cells 139 (0, 0)) :: blk r (mapO encI encI es c) :: H) := by
 refine CT_intro Tryz.func25 rfl Tryz.ntmps25 rfl ?_
 refine T2 (Qai rfl rfl (TX (zS (T2 ?_))))
 refine zq (zm (.pointer _) rfl) rfl (zq (Qt_ptr_nil rfl rfl Tryz.underlying77) rfl (TX (zC rfl (fun h6 => ?_) (fun h6 => ?_))))
 ·
  have p6 := h6
  try simp only [dp] at p6
  cases h6
 have p6 := h6
 try simp only [dp] at p6
 refine S4 (zq (zm (.pointer _) rfl) rfl (Qmi rfl rfl (zq (zm (.pointer _) rfl) rfl (zq (Qt_nilCheck rfl) rfl (zq (zf 2 rfl rfl) rfl ?_)))))
 refine zq (zn rfl rfl) rfl ?_
 refine ze rfl (zc (some_v hmk) rfl (fun x13 => ?_))
 refine ze rfl (zc (sgreat_c hg hes) rfl (fun x14 => ?_))
 refine TL_pure (fun hgr => ?_)
 refine Qai rfl rfl (TX (zQ ?_))
 exact zX x14 [_] Tryz.results25 ⟨rfl, trivial⟩ rfl (fun w hw => (SB w hw : St w0 (blk p (.cells (StopsV.mk (KeysV.mk ⟨sa, sc, ls⟩ rt) (ViewV.mk num (mk : Int)) (some r)).cells 139 (0, 0)) :: blk r (mapO encI encI es c) :: H) w).addPure hgr)
set_option maxHeartbeats 1000000 in
theorem senough_c {w0 : World} {H : List SA} {p r c : Nat} {es : EM} {num : Int} {mk : Nat} {sa : Option Addr} {sc : Nat} {ls : List BS} {rt : Sl} (hg : GoodM es c) (hes : es.length ≤ 100000) (hmk : mk < 65536) {above : Int} :
 CT Tryz.prog w0 (blk p (.cells (StopsV.mk (KeysV.mk ⟨sa, sc, ls⟩ rt) (ViewV.mk num (mk : Int)) (some r)).cells 139 (0, 0)) :: blk r (mapO encI encI es c) :: H) 26 [.pointer (some ⟨p, 0, none⟩), .int .i64 above] (α := Int) (fun x => .int .i64 x) (fun x => pu (Gr es above (enoughV num mk : Int) x) :: blk p (.cells (StopsV.mk (KeysV.mk ⟨sa, sc, ls⟩ rt) (ViewV.mk num (mk : Int)) (some r)).cells 139 (0, 0)) :: blk r (mapO encI encI es c) :: H) := by
 refine CT_intro Tryz.func26 rfl Tryz.ntmps26 rfl ?_
 refine T2 (Qai rfl rfl (TX (zS (T2 ?_))))
 refine zq (zm (.pointer _) rfl) rfl (zq (Qt_ptr_nil rfl rfl Tryz.underlying77) rfl (TX (zC rfl (fun h6 => ?_) (fun h6 => ?_))))
 ·
  have p6 := h6
  try simp only [dp] at p6
  cases h6
 have p6 := h6
 try simp only [dp] at p6
 refine S4 (zq (zm (.pointer _) rfl) rfl (Qmi rfl rfl (zq (zm (.pointer _) rfl) rfl (zq (Qt_nilCheck rfl) rfl (zq (zf 2 rfl rfl) rfl ?_)))))
 refine zq (zn rfl rfl) rfl ?_
 refine ze rfl (zc (enough_v hmk) rfl (fun x13 => ?_))
 refine ze rfl (zc (sgreat_c hg hes) rfl (fun x14 => ?_))
 refine TL_pure (fun hgr => ?_)
 refine Qai rfl rfl (TX (zQ ?_))
 exact zX x14 [_] Tryz.results26 ⟨rfl, trivial⟩ rfl (fun w hw => (SB w hw : St w0 (blk p (.cells (StopsV.mk (KeysV.mk ⟨sa, sc, ls⟩ rt) (ViewV.mk num (mk : Int)) (some r)).cells 139 (0, 0)) :: blk r (mapO encI encI es c) :: H) w).addPure hgr)
end
section
open Go.RowKit Go.Sx
set_option maxRecDepth 100000
set_option linter.unusedSimpArgs false
set_option linter.unusedVariables false
def MS (i : Nat) : MsgD := ⟨4, i, 0, 2 + i, 0, zeroV 32, [], []⟩
theorem smallS (i : Nat) : SmallM (MS i) := ⟨by simp [MS], by simp [MS], fun x hx => by cases hx⟩
theorem formedS (i : Nat) (h : i < 2) : formedM (MS i) = true := by simp only [formedM_iff, MS]; omega
theorem lenS (i : Nat) : (msgB (MS i)).length = 42 := by
 rw [msgB_len, headM_len]
 have e : packed 0 = [0] := packed_small (by decide)
 simp [textB, MS, texts, e]
theorem putS (i : Nat) (h : i < 2) : (putM (MS i)).2 = 0 := by
 unfold putM
 rw [if_neg (by rw [lenS]; simp [MS]), if_pos (formedS i h)]

theorem sealS (i : Nat) (h : i < 2) : (sealK (keyT 16) (MS i)).2 = 0 := by
 rw [sealK_ok (putS i h) (by rw [keyT_len]; show ¬ ((16 : Nat) : Int) ≤ (i : Int); omega)]
theorem has15 : ∀ i < 2, hasV 15 ((i : Nat) : Int) = true := by decide
theorem openS (i : Nat) (h : i < 2) : openOfK (keyT 16) 15 (sealK (keyT 16) (MS i)).1 = (0, MS i) := by
 unfold openOfK
 rw [openK_seal (sealS i h) (smallS i), if_neg (by rintro ⟨-, h2⟩; rw [show (MS i).frm = ((i : Nat) : Int) from rfl, has15 i h] at h2; cases h2)]
theorem sealK_le {K : List (List UInt8)} {m : MsgD} : (sealK K m).1.length ≤ 65536 := by
 have := putM_le m
 unfold sealK
 split
 · simp
 · split
   · simp
   · simp; omega
def E1 : EM := [⟨0, 2, 0⟩]
def E2 : EM := [⟨0, 2, 0⟩, ⟨1, 3, 1⟩]
theorem takeS0 : takeM (keyT 16) 0 15 [] 0 (sealK (keyT 16) (MS 0)).1 = (0, E1, 1) := by
 unfold takeM
 rw [openS 0 (by decide)]
 simp [MS, hasE, getE, putE, clockE, E1]
theorem takeS1 : takeM (keyT 16) 0 15 E1 1 (sealK (keyT 16) (MS 1)).1 = (0, E2, 2) := by
 unfold takeM
 rw [openS 1 (by decide)]
 simp [MS, hasE, getE, putE, clockE, E1, E2]
theorem goodW : GoodM E2 2 := ⟨by simp [E2], by simp [E2], by simp [E2]⟩
theorem countW (q : Int) : countE E2 q = (if q ≤ 2 then 1 else 0) + (if q ≤ 3 then 1 else 0) := by
 unfold countE E2
 by_cases h1 : q ≤ 2 <;> by_cases h2 : q ≤ 3 <;> simp [List.filter_cons, h1, h2] <;> omega
theorem someW : someV 0 15 = 2 := by decide +kernel
theorem enoughW : enoughV 0 15 = 3 := by decide +kernel
theorem grSome {x : Int} (h : Gr E2 0 2 x) : x = 2 := by
 obtain ⟨h1, h2⟩ := h
 have h3 := h2 2
 rw [countW] at h3
 rcases h1 with h1 | ⟨a, b, c, d, e⟩
 · subst h1; simp at h3
 · rw [countW] at e
   by_cases q1 : x ≤ 2
   · rcases (by omega : x = 2 ∨ x < 2) with h | h
     · exact h
     · simp at h3; omega
   · rw [if_neg q1] at e; split at e <;> omega
theorem grEnough {x : Int} (h : Gr E2 0 3 x) : x = -1 := by
 obtain ⟨h1, h2⟩ := h
 rcases h1 with h1 | ⟨a, b, c, d, e⟩
 · exact h1
 · rw [countW] at e; split at e <;> split at e <;> omega
theorem lt16 {ls : List BS} (h : ls.map BS.l = keyT 16) : (∀ x ∈ ls, x.l.length ≤ 4294967000) ∧ ls.length ≤ 1000 := by
 refine ⟨fun x hx => ?_, ?_⟩
 · have : x.l ∈ keyT 16 := h ▸ List.mem_map.2 ⟨x, hx, rfl⟩
   obtain ⟨i, -, hi⟩ := List.mem_map.1 this
   rw [← hi]; simp
 · have := congrArg List.length h
   rw [keyT_len, List.length_map] at this
   omega
theorem lt_of {ls os : List BS} (h : os.map BS.l = ls.map BS.l) (hl : ls.map BS.l = keyT 16) : ∀ x ∈ os, x.l.length ≤ 4294967000 := (lt16 (h.trans hl)).1
def longS (K : List (List UInt8)) : Bool := decide (24 < K.length) || K.any fun c => decide (6000 < c.length)
theorem longS_small {K : List (List UInt8)} (h : longS K = false) : K.length ≤ 24 ∧ ∀ x ∈ K, x.length ≤ 6000 := by
 simp only [longS, Bool.or_eq_false_iff, decide_eq_false_iff_not, List.any_eq_false, decide_eq_true_eq] at h
 exact ⟨by omega, fun x hx => by have := h.2 x hx; omega⟩
attribute [local irreducible] sealK openOfK takeM keyT someV enoughV
set_option maxHeartbeats 1000000 in
theorem wakes19_c {w0 : World} {H : List SA}  :
 CT Tryz.prog w0 (H) 5 [] (α := Unit) (fun _ => .bool true) (fun _ => H) := by
 refine CT_intro Tryz.func5 rfl Tryz.ntmps5 rfl ?_
 refine T2 (Qab rfl rfl (T4 (zq (Qt_build [] rfl (by kernel_rfl)) rfl ?_)))
 refine ze rfl (zc (keys_c (ask := AskV.zero)) rfl (fun x7 => ?_))
 refine TL_pure (fun hk7 => ?_)
 refine ze rfl (Ef_allocN (fun b1 => ?_))
 refine zN (zs rfl rfl (?_))
 refine T4 (zq (zn rfl rfl) rfl (zq (Qt_build [(1, (.int .u16 _))] rfl (by kernel_rfl)) rfl ?_))
 refine ze rfl (zc (stopsNew_c (sa := x7.1.a) (sc := x7.1.c) (ls := x7.1.ls) (rt := AskV.zero.roots) (num := 0) (mk := 15) (lt16 hk7).1 (lt16 hk7).2) rfl (fun x10 => ?_))
 refine TL_pure (fun h10 => ?_)
 refine zq (za (.pointer _) rfl) rfl (TX (zS (T2 ?_)))
 refine Qmi rfl rfl (TX (zB ?_))
 refine T_unroll (TU_round ?_)
 refine T2 (zq (Qt_lss rfl rfl) rfl (TX (zS ?_)))
 refine T_cond_true rfl (by first | rfl | decide) (zk (zx (zS (zB (T2 ?_)))))
 refine Qmi rfl rfl (Qai rfl rfl (T4 (zq (zn rfl rfl) rfl (Qmi rfl rfl (Qmi rfl rfl ?_)))))
 refine zq (Qt_add rfl rfl (by omega) (by omega)) rfl (zq (Qt_build [(0, (.int .i64 _)), (1, (.int .i64 _)), (3, (.int .i64 _))] rfl (by kernel_rfl)) rfl ?_)
 refine ze rfl (zc (sealF_c (sa := x7.1.a) (sc := x7.1.c) (ls := x7.1.ls) (rt := AskV.zero.roots) (lt16 hk7).1 (m := ⟨4, 0, 0, 2 + (0), 0, zeroV 32, ⟨none, 0, []⟩, ⟨none, 0, []⟩⟩) (MS 0) (rb := RdB.nil') (rc := RdC.vals0) (re := RdE.nil) rfl (smallS 0)) rfl (fun x20 => ?_))
 rw [hk7]
 refine zq (zm (.tuple _) rfl) rfl (zq (Qt_extract rfl) rfl (zq (Qt_extract rfl) rfl (Qas rfl rfl (Qai rfl rfl (T4 ?_)))))
 refine zq (zm (.pointer _) rfl) rfl (Qms rfl rfl (TL_frontB x10.1.2 (TL_frontB x10.1.1 ?_)))
 refine ze rfl (zc (stake_c (p := x10.1.1) (r := x10.1.2) (sa := x10.2.1.a) (sc := x10.2.1.c) (ls := x10.2.1.ls) (rt := ⟨none, 0, 0⟩) (num := 0) (mk := 15) (es := []) (c := 0) (l := (sealK (keyT 16) (MS 0)).1) (by decide) (lt_of h10 hk7) (by have := @sealK_le (keyT 16) (MS 0); omega)) rfl (fun x25 => ?_))
 rw [h10, hk7, takeS0]
 refine zq (Qt_neq rfl rfl) rfl (TX (T_cond_false rfl (by first | rfl | decide) (zk (X_block (zx (zR ?_))))))
 refine zq (Qt_add rfl rfl (by omega) (by omega)) rfl (Qmi rfl rfl (zz (X_again (TU_round ?_))))
 refine T2 (zq (Qt_lss rfl rfl) rfl (TX (zS ?_)))
 refine T_cond_true rfl (by first | rfl | decide) (zk (zx (zS (zB (T2 ?_)))))
 refine Qmi rfl rfl (Qai rfl rfl (T4 (zq (zn rfl rfl) rfl (Qmi rfl rfl (Qmi rfl rfl ?_)))))
 refine zq (Qt_add rfl rfl (by omega) (by omega)) rfl (zq (Qt_build [(0, (.int .i64 _)), (1, (.int .i64 _)), (3, (.int .i64 _))] rfl (by kernel_rfl)) rfl ?_)
 refine ze rfl (zc (sealF_c (sa := x7.1.a) (sc := x7.1.c) (ls := x7.1.ls) (rt := AskV.zero.roots) (lt16 hk7).1 (m := ⟨4, 0 + 1, 0, 2 + (0 + 1), 0, zeroV 32, ⟨none, 0, []⟩, ⟨none, 0, []⟩⟩) (MS 1) (rb := RdB.nil') (rc := RdC.vals0) (re := RdE.nil) rfl (smallS 1)) rfl (fun x20 => ?_))
 rw [hk7]
 refine zq (zm (.tuple _) rfl) rfl (zq (Qt_extract rfl) rfl (zq (Qt_extract rfl) rfl (Qas rfl rfl (Qai rfl rfl (T4 ?_)))))
 refine zq (zm (.pointer _) rfl) rfl (Qms rfl rfl (TL_frontB x10.1.2 (TL_frontB x10.1.1 ?_)))
 refine ze rfl (zc (stake_c (p := x10.1.1) (r := x10.1.2) (sa := x10.2.1.a) (sc := x10.2.1.c) (ls := x10.2.1.ls) (rt := ⟨none, 0, 0⟩) (num := 0) (mk := 15) (es := E1) (c := 1) (l := (sealK (keyT 16) (MS 1)).1) (by decide) (lt_of h10 hk7) (by have := @sealK_le (keyT 16) (MS 1); omega)) rfl (fun x25 => ?_))
 rw [h10, hk7, takeS1]
 refine zq (Qt_neq rfl rfl) rfl (TX (T_cond_false rfl (by first | rfl | decide) (zk (X_block (zx (zR ?_))))))
 refine zq (Qt_add rfl rfl (by omega) (by omega)) rfl (Qmi rfl rfl (zz (X_again (TU_round ?_))))
 refine T2 (zq (Qt_lss rfl rfl) rfl (TX (zS ?_)))
 refine T_cond_false rfl (by first | rfl | decide) (zY (zG ?_))
 refine X_again_exit (zE (zx (T2 ?_)))
 refine zq (zm (.pointer _) rfl) rfl (TL_frontB x10.1.2 (TL_frontB x10.1.1 ?_))
 refine ze rfl (zc (ssome_c (p := x10.1.1) (r := x10.1.2) (sa := x10.2.1.a) (sc := x10.2.1.c) (ls := x10.2.1.ls) (rt := ⟨none, 0, 0⟩) (num := 0) (mk := 15) (es := E2) (c := 2) goodW (by decide) (by decide) (above := 0)) rfl (fun x29 => ?_))
 refine TL_pure (fun h29 => ?_)
 rw [someW] at h29
 obtain rfl := grSome h29
 refine zq (Qt_eql rfl rfl) rfl (Qmb rfl rfl ?_)
 refine TL_split 31 rfl (fun h31 => ?_) (fun h31 => ?_)
 ·
  have p31 := h31
  try simp only [dp] at p31
  refine zt rfl rfl h31 (zq (zm (.pointer _) rfl) rfl (TL_frontB x10.1.2 (TL_frontB x10.1.1 (zt rfl rfl h31 ?_))))
  refine ze rfl (zc (senough_c (p := x10.1.1) (r := x10.1.2) (sa := x10.2.1.a) (sc := x10.2.1.c) (ls := x10.2.1.ls) (rt := ⟨none, 0, 0⟩) (num := 0) (mk := 15) (es := E2) (c := 2) goodW (by decide) (by decide) (above := 0)) rfl (fun x33 => ?_))
  refine TL_pure (fun h33 => ?_)
  rw [enoughW] at h33
  obtain rfl := grEnough h33
  refine zt rfl rfl h31 (zq (Qt_eql rfl rfl) rfl (zq (zT (.bool _) rfl h31 rfl) rfl (Qmb rfl rfl ?_)))
  refine TL_split 36 rfl (fun h36 => ?_) (fun h36 => ?_)
  ·
   have p36 := h36
   try simp only [dp] at p36
   refine zt rfl rfl h36 (zq (zm (.pointer _) rfl) rfl (TL_frontB x10.1.2 (TL_frontB x10.1.1 (zt rfl rfl h36 ?_))))
   refine ze rfl (zc (scount_c (p := x10.1.1) (r := x10.1.2) (sa := x10.2.1.a) (sc := x10.2.1.c) (ls := x10.2.1.ls) (rt := ⟨none, 0, 0⟩) (num := 0) (mk := 15) (es := E2) (c := 2) goodW (by decide) (reg := 3)) rfl (fun x38 => ?_))
   rw [show countE E2 3 = 1 from by rw [countW]; rfl]
   refine zt rfl rfl h36 (zq (Qt_eql rfl rfl) rfl (zq (zT (.bool _) rfl h36 rfl) rfl (Qab rfl rfl (TX (zQ ?_)))))
   exact zX () [.bool true] Tryz.results5 ⟨by refine congrArg Value.bool ?_; decide, trivial⟩ rfl SB
  have p36 := h36
  try simp only [dp] at p36
  exact absurd h36 (by decide)
 have p31 := h31
 try simp only [dp] at p31
 exact absurd h31 (by decide)
set_option maxHeartbeats 1000000 in
theorem long19_c {w0 : World} {H : List SA} {a : Option Addr} {ls : List BS} {c : Nat} [hr : RdC w0 H (.slice a ls.length c) 1 (ls.map BS.val)] :
 CT Tryz.prog w0 (H) 6 [.slice a ls.length c] (α := Unit) (fun _ => .bool (longS (ls.map BS.l))) (fun _ => H) := by
 refine CT_intro Tryz.func6 rfl Tryz.ntmps6 rfl ?_
 refine T2 (Qab rfl rfl (TX (zS (T2 ?_))))
 refine Qms rfl rfl (zq (zL rfl Tryz.underlying28) rfl (zq (Qt_gtr rfl rfl) rfl (TX (zC rfl (fun h6 => ?_) (fun h6 => ?_)))))
 ·
  have p6 := h6
  try simp only [dp] at p6
  refine T2 (Qab rfl rfl (TX (zQ (zr ?_))))
  have e : longS (ls.map BS.l) = true := by simp [longS]; left; omega
  exact zX () [_] Tryz.results6 ⟨rfl, trivial⟩ (by rw [e]; rfl) SB
 have p6 := h6
 try simp only [dp] at p6
 refine zk (zx (zS (T2 ?_)))
 refine Qms rfl rfl (zq (zL rfl Tryz.underlying28) rfl (Qmi rfl rfl (TX (zB ?_))))
 refine T_loop [2, 3, 9, 10, 11, 12, 13, 14, 15, 16, 17, 18] [9] (fun us H' => ∃ (k : Nat), us = [.int .i64 (k : Int)] ∧ H = H' ∧ k ≤ ls.length ∧ (((ls.map BS.l).take k).any (fun c => decide (6000 < c.length)) = false)) (fun us => match us with | .int _ i :: _ => ls.length - i.toNat | _ => 0) ⟨0, rfl, rfl, by omega, rfl⟩ SB ?_
 rintro τ0 _ _  ⟨k, rfl, rfl, hk0, hpre⟩ _
 refine T2 (zq (Qt_lss rfl rfl) rfl (TX (zS ?_)))
 refine zC rfl (fun h10 => ?_) (fun h10 => ?_)
 ·
  have p10 := h10
  try simp only [dp] at p10
  have hk : k < ls.length := by omega
  refine zk (zx (zS (zB (T2 ?_))))
  refine Qmi rfl rfl (Qai rfl rfl (T4 (Qms rfl rfl (Qmi rfl rfl (zq (Qt_indexR rfl rfl (by omega) (by simp; omega)) rfl ?_)))))
  refine zq (Qt_loadR (.slice _ _ _) rfl (vals_get _ _ hk)) rfl (zq (zL rfl Tryz.underlying33) rfl (zq (Qt_gtr rfl rfl) rfl (TX (zC rfl (fun h17 => ?_) (fun h17 => ?_)))))
  ·
   have p17 := h17
   try simp only [dp] at p17
   refine T2 (Qab rfl rfl (TX (zQ (zb (zr (X_loop_ret (zb (zr ?_))))))))
   have e : longS (ls.map BS.l) = true := by have := any_of_get (fun c : List UInt8 => decide (6000 < c.length)) (ls.map BS.l) k (by simpa using hk) (by simp; omega); simp only [longS, this, Bool.or_true]
   exact zX () [_] Tryz.results6 ⟨rfl, trivial⟩ (by rw [e]; rfl) SB
  have p17 := h17
  try simp only [dp] at p17
  refine zk (X_block (zx (zR ?_)))
  refine zq (Qt_add rfl rfl (by omega) (by omega)) rfl (Qmi rfl rfl (zz ?_))
  apply X_loop
  case ha => exact (by repeat (first | with_reducible exact agree_refl | refine agree_upd rfl ?_ | refine agree_mix rfl ?_ | refine agree_setAll rfl ?_))
  case hI => exact ⟨k + 1, rfl, rfl, by omega, any_take_snoc _ (ls.map BS.l) k (by simpa using hk) hpre (by simp; omega)⟩
  case hm => exact by show ls.length - (k + 1 : Int).toNat < ls.length - (k : Int).toNat; omega
  case hH => exact SB
 have p10 := h10
 try simp only [dp] at p10
 have et : (ls.map BS.l).take k = ls.map BS.l := List.take_of_length_le (by simp; omega)
 rw [et] at hpre
 refine zY (zG (zW (zE (zx (T2 ?_)))))
 refine Qab rfl rfl (TX (zQ ?_))
 have e : longS (ls.map BS.l) = false := by simp only [longS, hpre, Bool.or_false]; simp; omega
 exact zX () [_] Tryz.results6 ⟨rfl, trivial⟩ (by rw [e]; rfl) SB
end
end Go.Proofs.YtnijomppbgdmnaaGreat
