/- Walks: the references on digests. -/
import Derived.Test.YtnijomppbgdmnaaGreatSgP
import Derived.Test.YtnijomppbgdmnaaGreatShaRP
import Derived.Test.YtnijomppbgdmnaaGreatCmRP
set_option linter.unusedSimpArgs false
set_option linter.unusedVariables false
namespace Go.Proofs.YtnijomppbgdmnaaGreat
open Go.RowKit Go.Sx
set_option maxRecDepth 100000
set_option maxHeartbeats 1000000
theorem rturn_c {w0 : World} {H : List SA} {x : UInt32} {k : Nat} (h0 : 0 < k) (hk : k < 32) :
 CT Tryz.prog w0 (H) 162 [w32 x, .int .i64 (k : Int)] (α := Unit) (fun _ => w32 (rotr x k)) (fun _ => H) := by
 refine CT_intro Tryz.func162 rfl Tryz.ntmps162 rfl (T2 (zy (za (.int .u32 _) rfl) (T4 (zy (zm (.int .u32 _) rfl) (Qmi rfl rfl (zy (Qt_conv_u64 rfl rfl Tryz.underlying179 (by omega) (by omega)) (zy (Qt_shr32 k rfl rfl hk) (zy (zm (.int .u32 _) rfl) (Qmi rfl rfl (zy (zh rfl rfl) (zy (Qt_val (Qt_conv_u64 rfl rfl Tryz.underlying179 (by omega) (by omega)) (congrArg (Value.int .u64) (show (32 : Int) - (k : Int) = ((32 - k : Nat) : Int) from by omega))) (zy (Qt_shl32 (32 - k) rfl rfl (by omega)) (zy (Qt_or32 rfl rfl) (zy (za (.int .u32 _) rfl) (TX (zQ ?_))))))))))))))))
 refine zX () [w32 ((x >>> UInt32.ofNat k) ||| (x <<< UInt32.ofNat (32 - k)))] Tryz.results162 ⟨rfl, trivial⟩ ?_ SB
 rw [UInt32.or_comm]; rfl
theorem rword_c {w0 : World} {H : List SA} {i : Nat} (hi : i < 64) :
 CT Tryz.prog w0 (H) 163 [.int .i64 (i : Int)] (α := Unit) (fun _ => w32 (at32 Kc i)) (fun _ => H) := by
 refine CT_intro Tryz.func163 rfl Tryz.ntmps163 rfl (T2 (zy (za (.int .u32 _) rfl) (T4 (zy (Qt_build_arr (wl Kc).toArray Tryz.underlying256 rfl rfl (by kernel_rfl)) (ze rfl (Ef_allocN (fun b3 => ?_)))))))
 have hp0 : Put (wl (List.replicate 64 0)).toArray 0 (.agg (wl Kc).toArray) (wl Kc).toArray := wl_whole (by simp) Kc_len
 have hc0 : Cells (wl Kc).toArray 64 := Cells.list (by simp [Kc_len]) (by simp [List.all_eq_true]; exact wl_one _)
 refine zN (zs rfl rfl (T4 (Qmi rfl rfl (zy (Qt_indexAddr_arr (sz := 1) rfl rfl Tryz.underlying256 rfl rfl (by omega) (by omega)) ?_))))
 have cK := cellAt32a (l := Kc) (n := 0 + (i : Int).toNat * 1) (i := i) (by simp) (by rw [Kc_len]; exact hi)
 refine zy (zl rfl) (zy (za (.int .u32 _) rfl) (TX (zQ ?_)))
 exact zX () [_] Tryz.results163 ⟨rfl, trivial⟩ rfl SB
theorem rdFixed_wide {l : List UInt8} {n : Int} (h : wideB n = false) : rdFixed l n = (15, 0, 0) := by unfold rdFixed; rw [if_pos h]
theorem rdFixed_short {l : List UInt8} {n : Int} (h : wideB n = true) (hs : (l.length : Int) < n) : rdFixed l n = (1, 0, 0) := by unfold rdFixed; rw [if_neg (by simp [h]), if_pos hs]
theorem rdFixed_ok {l : List UInt8} {n : Nat} (h : wideB n = true) (hs : n ≤ l.length) : rdFixed l n = (0, beN (l.take n), n) := by unfold rdFixed; rw [if_neg (by simp [h]), if_neg (by omega)]; rfl

theorem rReadFixed_c {w0 : World} {H : List SA} {a : Option Addr} {l : List UInt8} {c k : Nat} {n : Int} [hr : RdB w0 H (.slice a l.length c) l] (hk : k ≤ l.length) (hl : l.length ≤ 4294967296) :
 CT Tryz.prog w0 (H) 84 [.slice a l.length c, .int .i64 (k : Int), .int .i64 n] (α := Unit) (fun _ => .agg (GotV.mk ((rdFixed (l.drop k) n).2.1 : Int) ⟨none, 0, []⟩ ((rdFixed (l.drop k) n).2.2 : Int) (rdFixed (l.drop k) n).1).cells) (fun _ => H) := by
 refine CT_intro Tryz.func84 rfl Tryz.ntmps84 rfl (T2 (ze rfl (Ef_allocN (fun b6 => ?_))))
 refine TX (zS (T2 (Qmi rfl rfl (ze rfl (zc (rWide_c) rfl (fun x10 => ?_))))))
 refine zy (Qt_not rfl) (TX (zC rfl (fun h11 => ?_) (fun h11 => ?_)))
 ·
  have p11 := cL h11
  have hw : wideB n = false := by simpa using h11
  refine T2 (zy (zw [(3, (.int .i64 _))] rfl) (zN (zs rfl rfl (TX (zQ (zr ?_))))))
  have e := rdFixed_wide (l := l.drop k) hw
  exact zX () [_] Tryz.results84 ⟨⟨_, rfl, res_cellN rfl⟩, trivial⟩ (by rw [e]; rfl) SB
 have p11 := cL h11
 have hw : wideB n = true := by simpa using h11
 refine zk (zx (zS (T2 (Qms rfl rfl (zy (zL rfl Tryz.underlying33) (Qmi rfl rfl (zy (zh rfl rfl) (Qmi rfl rfl (zy (Qt_lss rfl rfl) (TX (zC rfl (fun h18 => ?_) (fun h18 => ?_))))))))))))
 ·
  have p18 := cL h18
  refine T2 (zy (zw [(3, (.int .i64 _))] rfl) (zN (zs rfl rfl (TX (zQ (zr ?_))))))
  have e := rdFixed_short (l := l.drop k) hw (by simp; omega)
  exact zX () [_] Tryz.results84 ⟨⟨_, rfl, res_cellN rfl⟩, trivial⟩ (by rw [e]; rfl) SB
 have p18 := cL h18
 have hw4 := wideB_le hw
 obtain ⟨n, rfl⟩ := Int.eq_ofNat_of_zero_le (show 0 ≤ n by omega)
 have hkn : k + n ≤ l.length := by omega
 refine S4 (zy (za (.int .u64 _) rfl) (TX (zS (T2 (Qai rfl rfl (TX (zB ?_)))))))
 refine T_loop [7, 8, 20, 21, 22, 23, 24, 25, 26, 27, 28, 29, 30, 31, 32, 33, 34] [8, 7] (fun us H' => ∃ (i : Nat), us = [.int .i64 (i : Int), .int .u64 ((beN ((l.drop k).take i) : Nat) : Int)] ∧ blk b6 (.cells GotV.zero.cells 123 (0, 0)) :: H = H' ∧ i ≤ n) (fun us => match us with | .int _ i :: _ => n - i.toNat | _ => 0) ⟨0, rfl, rfl, by omega⟩ SB ?_
 rintro τ0 _ _  ⟨i, rfl, rfl, hi0⟩ _
 refine zS (T2 (Qmi rfl rfl (Qmi rfl rfl (zy (Qt_lss rfl rfl) (TX (zC rfl (fun h22 => ?_) (fun h22 => ?_)))))))
 ·
  have p22 := cL h22
  have hin : i < n := by omega
  have hki : k + i < l.length := by omega
  have hsn : beN ((l.drop k).take (i + 1)) = beN ((l.drop k).take i) * 256 + l[k + i].toNat := by
   rw [List.take_succ_eq_append_getElem (by simp; omega), beN_snoc]; simp
  have hlt : beN ((l.drop k).take i) < 256 ^ 7 := Nat.lt_of_lt_of_le (beN_lt _) (Nat.pow_le_pow_right (by decide) (by simp; omega))
  have h7 : (256 : Nat) ^ 7 = 72057594037927936 := by decide
  have hc8 := l[k + i].toNat_lt
  refine zk (zx (zS (zB (zR (zy (zm (.int .u64 _) rfl) (zy (Qt_val (Qt_mulw rfl rfl) (congrArg (Value.int .u64) (wrap_u64 (by omega) (by omega)))) (Qms rfl rfl (Qmi rfl rfl (Qmi rfl rfl (zy (zj rfl rfl) (zy (Qt_indexR rfl rfl (by omega) (by simp; omega)) (zy (Qt_loadR (.int .u8 (l[k + i].toNat : Int)) rfl (bytes_get _ _ hki)) (zy (Qt_conv_u64 rfl rfl Tryz.underlying121 (by omega) (by omega)) (zy (Qt_val (Qt_addw rfl rfl) (congrArg (Value.int .u64) (show IntKind.u64.wrap (256 * ((beN ((l.drop k).take i) : Nat) : Int) + (l[k + i].toNat : Int)) = ((beN ((l.drop k).take (i + 1)) : Nat) : Int) from by rw [wrap_u64 (by omega) (by omega), hsn]; omega))) (zy (za (.int .u64 _) rfl) (zz (X_block (zx (zR ?_)))))))))))))))))))
  refine Qmi rfl rfl (zy (zj rfl rfl) (Qai rfl rfl (zz (X_loop _ zA (⟨i + 1, rfl, rfl, by omega⟩) (by show n - (i + 1 : Int).toNat < n - (i : Int).toNat; omega) (SB)))))
 have p22 := cL h22
 have hi : i = n := by omega
 subst hi
 refine zY (zG (zW (zE (zx (T2 (zy (zm (.int .u64 _) rfl) (Qmi rfl rfl (zy (zw [(0, (.int .u64 _)), (2, (.int .i64 _))] rfl) (zN (zs rfl rfl (TX (zQ ?_))))))))))))
 have e := rdFixed_ok (l := l.drop k) hw (by simp; omega)
 exact zX () [_] Tryz.results84 ⟨⟨_, rfl, res_cellN rfl⟩, trivial⟩ (by rw [e]; rfl) SB
theorem madeCells_one (v : Value) (h : v.cells = #[v]) (n : Nat) : madeCells v.cells n = (List.replicate n v).toArray := by
 unfold madeCells
 rw [h]
 apply Array.ext
 · simp
 · intro i h1 h2; simp [Nat.mod_one]
theorem ref_word (x y z u : UInt32) : sig1 y + z + sig0 x + u = u + z + sig0 x + sig1 y := by
 rw [UInt32.add_comm _ u, ← UInt32.add_assoc, UInt32.add_comm (sig1 y) z, ← UInt32.add_assoc, UInt32.add_assoc (u + z) (sig1 y), UInt32.add_comm (sig1 y), ← UInt32.add_assoc]
theorem rd4 {l : List UInt8} {i : Nat} (h : 4 * i + 4 ≤ l.length) : (rdFixed (l.drop (4 * i)) ((4 : Nat) : Int)).2.1 = beN ((l.drop (4 * i)).take 4) := by rw [rdFixed_ok rfl (by simp; omega)]

theorem rblock_c {w0 : World} {H : List SA} {a a2 : Option Addr} {l : List UInt8} {c c2 : Nat} {s : S8} [hs : RdC w0 H (.slice a2 8 c2) 1 (wl s.list)] [hr : RdB w0 H (.slice a l.length c) l] (hl : l.length = 64) :
 CT Tryz.prog w0 (H) 122 [.slice a2 8 c2, .slice a l.length c] (α := AC) (fun y => .slice y.a 8 y.c) (fun y => row (.slice y.a 8 y.c) 202 1 (wl (compress l s).list) :: H) := by
 refine CT_intro Tryz.func122 rfl Tryz.ntmps122 rfl (T2 (Qas rfl rfl (T4 ?_)))
 have hz32 := (inferInstance : TyZ Tryz.prog 202 (.int .u32 0)).ok
 refine ze rfl (Ef_makeBlk (n := 64) (wl (wpad l 0)) rfl rfl (fun i z h1 h2 => by rw [show Tryz.prog.info? 202 = some i from h1] at hz32; simp only [Option.bind_some, h2, Option.some.injEq] at hz32; subst hz32; (rw [wpad_zero, madeCells_one _ rfl]; rfl)) (by decide) (by decide) (by decide) (fun b23 => ?_))
 refine Qas rfl rfl (TX (zS (T2 (Qai rfl rfl (TX (zB ?_))))))
 refine T_loop [6, 7, 8, 9, 10, 24, 25, 26, 27, 28, 29, 30, 31, 32, 33, 34, 35, 36, 37, 38, 39, 40, 41, 42, 43, 44, 45, 46, 47, 48, 49, 50, 51, 52, 53, 54, 55, 56, 57, 58, 59, 60, 61, 62, 63, 64, 65, 66, 67, 68, 69, 70, 71, 72, 73, 74, 75, 76, 77, 78, 79, 80, 81, 82] [6] (fun us H' => ∃ (i : Nat), us = [.int .i64 (i : Int)] ∧ blk b23 (.cells (wl (wpad l (i))).toArray 202 (0, 0)) :: H = H' ∧ i ≤ 64) (fun us => match us with | .int _ i :: _ => 64 - i.toNat | _ => 0) ⟨0, rfl, rfl, by omega⟩ SB ?_
 rintro τ0 _ _  ⟨i, rfl, rfl, hi0⟩ _
 refine zS (T2 (Qmi rfl rfl (zy (Qt_lss rfl rfl) (TX (zC rfl (fun h25 => ?_) (fun h25 => ?_))))))
 ·
  have p25 := cL h25
  have hi : i < 64 := by omega
  refine zk (zx (zS (zB (zS (T2 (Qmi rfl rfl (zy (Qt_lss rfl rfl) (TX (zC rfl (fun h29 => ?_) (fun h29 => ?_))))))))))
  ·
   have p29 := cL h29
   have hi16 : i < 16 := by omega
   refine T2 (Qms rfl rfl (Qmi rfl rfl (Qms rfl rfl (Qmi rfl rfl (zy (Qt_mul rfl rfl (by omega) (by omega)) (ze rfl (zc (rReadFixed_c (k := 4 * i) (n := ((4 : Nat) : Int)) (by omega) (by omega)) rfl (fun x35 => ?_))))))))
   refine zy (Qt_field1 (ft := 121) rfl rfl) (zy (Qt_val (v' := w32 (wordB l i)) (Qt_conv rfl rfl Tryz.underlying202) ((congrArg (Value.int .u32) (conv32 _)).trans (by rw [rd4 (by omega)]; rfl))) ?_)
   have hput : Put (wl (wpad l i)).toArray (0 + (i : Int).toNat * 1) (w32 (wordB l i)) (wl (wpad l (i + 1))).toArray := by have := putAt32 (l := wpad l i) (n := 0 + (i : Int).toNat * 1) (i := i) (x := (wordB l i)) (by simp) (by rw [wpad_len l i (by omega)]; omega); rwa [wpad_set l i (by omega) _ (by rw [if_pos hi16])] at this
   refine zy (Qt_indexAddr (sz := 1) rfl rfl Tryz.underlying219 rfl rfl (by omega) (by omega)) (zN (Ef_store1 (.int .u32 _) rfl rfl (TX (zY (zG (zE (zx (zR (Qmi rfl rfl (zy (zj rfl rfl) (Qai rfl rfl (zz ?_))))))))))))
   apply X_loop
   case ha => exact zA
   case hI => exact ⟨i + 1, rfl, rfl, by omega⟩
   case hm => exact by show 64 - (i + 1 : Int).toNat < 64 - (i : Int).toNat; omega
   case hH => exact SB
  have p29 := cL h29
  have hi16 : ¬ i < 16 := by omega
  refine S4 (Qms rfl rfl (Qmi rfl rfl (zy (zh rfl rfl) (zy (Qt_indexAddr (sz := 1) rfl rfl Tryz.underlying219 rfl rfl (by omega) (by omega)) (zy (Qt_load1' (w32 (at32 (wst l i) (i - 15))) rfl (fun w hw => by rw [cell_of_blk ((inferInstance : Mem w0 _ b23 _).get w hw)]; exact wcell (Nat.le_refl _) (Nat.le_succ _) (show i - 15 + 15 = i by omega) (by omega) (by omega))) ?_)))))
  refine zy (za (.int .u32 _) rfl) (T4 (Qms rfl rfl (Qmi rfl rfl (zy (zh rfl rfl) (zy (Qt_indexAddr (sz := 1) rfl rfl Tryz.underlying219 rfl rfl (by omega) (by omega)) (zy (Qt_load1' (w32 (at32 (wst l i) (i - 2))) rfl (fun w hw => by rw [cell_of_blk ((inferInstance : Mem w0 _ b23 _).get w hw)]; exact wcell (Nat.le_refl _) (Nat.le_succ _) (show i - 2 + 2 = i by omega) (by omega) (by omega))) (zy (za (.int .u32 _) rfl) (T4 (zy (zm (.int .u32 _) rfl) ?_)))))))))
  refine ze rfl (zc (rturn_c (k := 7) (by decide) (by decide)) rfl (fun x50 => ?_))
  refine zy (zm (.int .u32 _) rfl) (ze rfl (zc (rturn_c (k := 18) (by decide) (by decide)) rfl (fun x52 => ?_)))
  refine zy (Qt_xor32 rfl rfl) (zy (zm (.int .u32 _) rfl) (zy (Qt_shr32 3 rfl rfl (by decide)) (zy (Qt_xor32 rfl rfl) (zy (za (.int .u32 _) rfl) (T4 (zy (zm (.int .u32 _) rfl) (ze rfl (zc (rturn_c (k := 17) (by decide) (by decide)) rfl (fun x58 => ?_)))))))))
  refine zy (zm (.int .u32 _) rfl) (ze rfl (zc (rturn_c (k := 19) (by decide) (by decide)) rfl (fun x60 => ?_)))
  refine zy (Qt_xor32 rfl rfl) (zy (zm (.int .u32 _) rfl) (zy (Qt_shr32 10 rfl rfl (by decide)) (zy (Qt_xor32 rfl rfl) (zy (za (.int .u32 _) rfl) (TX (zD [cellsOf b23 [(0 + ((i : Int) - 16).toNat * 1, w32 (at32 (wst l i) (i - 16))), (0 + ((i : Int) - 7).toNat * 1, w32 (at32 (wst l i) (i - 7)))]] [(0, true), (1, true), (2, true), (3, true), (4, true), (5, true), (6, true), (7, true), (8, true), (9, true), (10, true), (11, true), (12, true), (13, true), (14, true), (15, true), (16, true), (17, true), (18, false)] (fun w hw => wcells (by omega) (Nat.le_refl _) (by omega) hw) (fun hns0 => ?_)))))))
  refine zd hns0 rfl (zm (.slice _ _ _) rfl) rfl (zd hns0 rfl (zm (.int .i64 _) rfl) rfl (zd hns0 rfl (zm (.int .u32 _) rfl) rfl (zd hns0 rfl (zm (.slice _ _ _) rfl) rfl (zd hns0 rfl (zm (.int .i64 _) rfl) rfl (zd hns0 rfl (zh rfl rfl) rfl (zd hns0 rfl (Qt_indexAddr (sz := 1) rfl rfl Tryz.underlying219 rfl rfl (by omega) (by omega)) rfl (zd hns0 rfl (Qt_load1' (w32 (at32 (wst l i) (i - 7))) rfl (fun w hw => cellsOf_get hw (by simp))) rfl (zd hns0 rfl (Qt_add32 rfl rfl) rfl (zd hns0 rfl (zm (.int .u32 _) rfl) rfl (zd hns0 rfl (Qt_add32 rfl rfl) rfl (zd hns0 rfl (zm (.slice _ _ _) rfl) rfl ?_)))))))))))
  refine zd hns0 rfl (zm (.int .i64 _) rfl) rfl (zd hns0 rfl (zh rfl rfl) rfl (zd hns0 rfl (Qt_indexAddr (sz := 1) rfl rfl Tryz.underlying219 rfl rfl (by omega) (by omega)) rfl (zd hns0 rfl (Qt_load1' (w32 (at32 (wst l i) (i - 16))) rfl (fun w hw => cellsOf_get hw (by simp))) rfl (zd hns0 rfl (Qt_val (Qt_add32 rfl rfl) (congrArg w32 (ref_word (at32 (wst l i) (i - 15)) (at32 (wst l i) (i - 2)) (at32 (wst l i) (i - 7)) (at32 (wst l i) (i - 16))))) rfl ?_))))
  have hput : Put (wl (wpad l i)).toArray (0 + (i : Int).toNat * 1) (w32 (at32 (wst l i) (i - 16) + at32 (wst l i) (i - 7) + sig0 (at32 (wst l i) (i - 15)) + sig1 (at32 (wst l i) (i - 2)))) (wl (wpad l (i + 1))).toArray := by have := putAt32 (l := wpad l i) (n := 0 + (i : Int).toNat * 1) (i := i) (x := (at32 (wst l i) (i - 16) + at32 (wst l i) (i - 7) + sig0 (at32 (wst l i) (i - 15)) + sig1 (at32 (wst l i) (i - 2)))) (by simp) (by rw [wpad_len l i (by omega)]; omega); rwa [wpad_set l i (by omega) _ (by rw [if_neg hi16])] at this
  refine zd hns0 rfl (Qt_indexAddr (sz := 1) rfl rfl Tryz.underlying219 rfl rfl (by omega) (by omega)) rfl (DL_n rfl (Ef_store1 (.int .u32 _) rfl rfl (⟨(fun w hw => wcells (by omega) (Nat.le_succ _) (Nat.le_refl _) hw), ?_⟩)))
  refine DL_nil (X_block (zx (zR (Qmi rfl rfl (zy (zj rfl rfl) (Qai rfl rfl (zz ?_)))))))
  apply X_loop
  case ha => exact zA
  case hI => exact ⟨i + 1, rfl, rfl, by omega⟩
  case hm => exact by show 64 - (i + 1 : Int).toNat < 64 - (i : Int).toNat; omega
  case hH => exact SB
 have p25 := cL h25
 have hi : i = 64 := by omega
 subst hi
 refine zY (zG (zW (zE (zx (T2 (Qms rfl rfl (zy (Qt_indexR rfl rfl (by omega) (by simp [wl])) (zy (Qt_loadR (w32 s.a) rfl (rfl)) (zy (za (.int .u32 _) rfl) (T4 (Qms rfl rfl (zy (Qt_indexR rfl rfl (by omega) (by simp [wl])) (zy (Qt_loadR (w32 s.b) rfl (rfl)) (zy (za (.int .u32 _) rfl) (T4 (Qms rfl rfl (zy (Qt_indexR rfl rfl (by omega) (by simp [wl])) ?_)))))))))))))))))
 refine zy (Qt_loadR (w32 s.c) rfl (rfl)) (zy (za (.int .u32 _) rfl) (T4 (Qms rfl rfl (zy (Qt_indexR rfl rfl (by omega) (by simp [wl])) (zy (Qt_loadR (w32 s.d) rfl (rfl)) (zy (za (.int .u32 _) rfl) (T4 (Qms rfl rfl (zy (Qt_indexR rfl rfl (by omega) (by simp [wl])) (zy (Qt_loadR (w32 s.e) rfl (rfl)) (zy (za (.int .u32 _) rfl) ?_)))))))))))
 refine T4 (Qms rfl rfl (zy (Qt_indexR rfl rfl (by omega) (by simp [wl])) (zy (Qt_loadR (w32 s.f) rfl (rfl)) (zy (za (.int .u32 _) rfl) (T4 (Qms rfl rfl (zy (Qt_indexR rfl rfl (by omega) (by simp [wl])) (zy (Qt_loadR (w32 s.g) rfl (rfl)) (zy (za (.int .u32 _) rfl) (T4 (Qms rfl rfl (zy (Qt_indexR rfl rfl (by omega) (by simp [wl])) (zy (Qt_loadR (w32 s.h) rfl (rfl)) (zy (za (.int .u32 _) rfl) (TX (zS (T2 ?_)))))))))))))))))
 refine Qai rfl rfl (TX (zB ?_))
 refine T_loop [11, 12, 13, 14, 15, 16, 17, 18, 19, 20, 21, 107, 108, 109, 110, 111, 112, 113, 114, 115, 116, 117, 118, 119, 120, 121, 122, 123, 124, 125, 126, 127, 128, 129, 130, 131, 132, 133, 134, 135, 136, 137, 138, 139, 140, 141, 142, 143, 144, 145, 146, 147, 148, 149, 150, 151, 152, 153, 154, 155, 156, 157, 158, 159, 160, 161, 162, 163, 164, 165, 166, 167, 168, 169] [19, 11, 12, 13, 14, 15, 16, 17, 18] (fun us H' => ∃ (j : Nat), us = [.int .i64 (j : Int), w32 (rnds l s j).a, w32 (rnds l s j).b, w32 (rnds l s j).c, w32 (rnds l s j).d, w32 (rnds l s j).e, w32 (rnds l s j).f, w32 (rnds l s j).g, w32 (rnds l s j).h] ∧ blk b23 (.cells (wl (wpad l (64))).toArray 202 (0, 0)) :: H = H' ∧ j ≤ 64) (fun us => match us with | .int _ i :: _ => 64 - i.toNat | _ => 0) ⟨0, rfl, rfl, by omega⟩ SB ?_
 rintro τ1 _ _  ⟨j, rfl, rfl, hj0⟩ _
 refine zS (T2 (Qmi rfl rfl (zy (Qt_lss rfl rfl) (TX (zC rfl (fun h108 => ?_) (fun h108 => ?_))))))
 ·
  have p108 := cL h108
  have hj : j < 64 := by omega
  refine zk (zx (zS (zB (zS (zD _ [(0, true), (1, true), (3, true), (6, true), (10, true), (11, true), (12, true), (13, true), (14, true), (15, true), (16, true), (17, true), (19, true), (22, true), (23, true), (24, true), (25, true), (2, false), (4, false), (5, true), (7, false), (8, true), (9, true), (18, true), (20, false), (21, true), (26, true), (27, true)] (fun _ hh => hh) (fun hns1 => ?_))))))
  refine zd hns1 rfl (zm (.int .u32 _) rfl) rfl (zd hns1 rfl (zm (.int .u32 _) rfl) rfl (zd hns1 rfl (zm (.int .u32 _) rfl) rfl (zd hns1 rfl (zm (.int .u32 _) rfl) rfl (zd hns1 rfl (zm (.int .u32 _) rfl) rfl (zd hns1 rfl (zm (.int .u32 _) rfl) rfl (zd hns1 rfl (Qt_and32 rfl rfl) rfl (zd hns1 rfl (zm (.int .u32 _) rfl) rfl (zd hns1 rfl (Qt_not32 rfl) rfl (zd hns1 rfl (zm (.int .u32 _) rfl) rfl (zd hns1 rfl (Qt_and32 rfl rfl) rfl (zd hns1 rfl (Qt_xor32 rfl rfl) rfl ?_)))))))))))
  refine zd hns1 rfl (zm (.int .i64 _) rfl) rfl (zd hns1 rfl (zm (.slice _ _ _) rfl) rfl (zd hns1 rfl (zm (.int .i64 _) rfl) rfl (zd hns1 rfl (Qt_indexAddr (sz := 1) rfl rfl Tryz.underlying219 rfl rfl (by omega) (by omega)) rfl ?_)))
  have cW := cellAtW (l := l) (n := 0 + (j : Int).toNat * 1) (i := j) (by simp) hj
  refine zd hns1 rfl (zl rfl) rfl (DL_e rfl rfl (zc (rturn_c (k := 6) (by decide) (by decide)) rfl (fun x113 => ⟨SB, ?_⟩)))
  refine DL_e rfl rfl (zc (rturn_c (k := 11) (by decide) (by decide)) rfl (fun x115 => ⟨SB, ?_⟩))
  refine zd hns1 rfl (Qt_xor32 rfl rfl) rfl (DL_e rfl rfl (zc (rturn_c (k := 25) (by decide) (by decide)) rfl (fun x118 => ⟨SB, ?_⟩)))
  refine zd hns1 rfl (Qt_xor32 rfl rfl) rfl (zd hns1 rfl (Qt_add32 rfl rfl) rfl (zd hns1 rfl (Qt_add32 rfl rfl) rfl (DL_e rfl rfl (zc (rword_c hj) rfl (fun x131 => ⟨SB, ?_⟩)))))
  refine zd hns1 rfl (Qt_add32 rfl rfl) rfl (zd hns1 rfl (Qt_add32 rfl rfl) rfl (zd hns1 rfl (za (.int .u32 _) rfl) rfl (DL_nil (zx (T2 (zy (zm (.int .u32 _) rfl) (ze rfl (zc (rturn_c (k := 2) (by decide) (by decide)) rfl (fun x139 => ?_)))))))))
  refine zy (zm (.int .u32 _) rfl) (ze rfl (zc (rturn_c (k := 13) (by decide) (by decide)) rfl (fun x141 => ?_)))
  refine zy (Qt_xor32 rfl rfl) (zy (zm (.int .u32 _) rfl) (ze rfl (zc (rturn_c (k := 22) (by decide) (by decide)) rfl (fun x144 => ?_))))
  refine zy (Qt_xor32 rfl rfl) (zy (zm (.int .u32 _) rfl) (zy (zm (.int .u32 _) rfl) (zy (Qt_and32 rfl rfl) (zy (zm (.int .u32 _) rfl) (zy (zm (.int .u32 _) rfl) (zy (Qt_and32 rfl rfl) (zy (Qt_xor32 rfl rfl) (zy (zm (.int .u32 _) rfl) (zy (zm (.int .u32 _) rfl) (zy (Qt_and32 rfl rfl) (zy (Qt_xor32 rfl rfl) ?_)))))))))))
  refine zy (Qt_add32 rfl rfl) (zy (za (.int .u32 _) rfl) (T4 (zy (zm (.int .u32 _) rfl) (zy (za (.int .u32 _) rfl) (T4 (zy (zm (.int .u32 _) rfl) (zy (za (.int .u32 _) rfl) (T4 (zy (zm (.int .u32 _) rfl) (zy (za (.int .u32 _) rfl) (T4 ?_)))))))))))
  refine zy (zm (.int .u32 _) rfl) (zy (zm (.int .u32 _) rfl) (zy (Qt_add32 rfl rfl) (zy (za (.int .u32 _) rfl) (T4 (zy (zm (.int .u32 _) rfl) (zy (za (.int .u32 _) rfl) (T4 (zy (zm (.int .u32 _) rfl) (zy (za (.int .u32 _) rfl) (T4 (zy (zm (.int .u32 _) rfl) ?_)))))))))))
  refine zy (za (.int .u32 _) rfl) (TX (zR (zy (zm (.int .u32 _) rfl) (zy (zm (.int .u32 _) rfl) (zy (Qt_add32 rfl rfl) (zy (za (.int .u32 _) rfl) (zz (X_block (zx (zR (Qmi rfl rfl (zy (zj rfl rfl) (Qai rfl rfl (zz ?_))))))))))))))
  apply X_loop
  case ha => exact zA
  case hI => exact (by refine ⟨j + 1, ?_, rfl, by omega⟩; rw [rnds_succ]; refine congr (congrArg List.cons (rfl : _ = Value.int .i64 (j + 1))) ?_; refine congr (congrArg List.cons ?_) ?_; (show _ = w32 _; unfold rnd; exact congrArg w32 (congr (congrArg HAdd.hAdd rfl) rfl)); (repeat (refine congr (congrArg List.cons ?_) ?_)); all_goals rfl)
  case hm => exact by show 64 - (j + 1 : Int).toNat < 64 - (j : Int).toNat; omega
  case hH => exact SB
 have p108 := cL h108
 have hj : j = 64 := by omega
 subst hj
 refine zY (zG (zW (zE (zx (T2 (Qas rfl rfl (TX (zS (zD _ [(0, true), (1, true), (2, true), (3, true), (4, true), (5, true), (6, true), (7, true), (8, true), (9, true), (10, true), (11, true), (12, true), (13, true), (14, true), (15, true), (16, true), (17, true), (18, true), (19, true), (20, true), (21, true), (22, true), (23, true), (24, true), (25, true), (26, true), (27, true), (28, true), (29, true), (30, true), (31, true), (32, true), (33, true), (34, true), (35, true), (36, true), (37, true), (38, true), (39, true), (40, true), (41, false), (42, false), (43, true)] (fun _ hh => hh) (fun hns2 => ?_))))))))))
 refine zd hns2 rfl (zm (.slice _ _ _) rfl) rfl (zd hns2 rfl (zm (.slice _ _ _) rfl) rfl (zd hns2 rfl (Qt_indexR rfl rfl (by omega) (by simp [wl])) rfl (zd hns2 rfl (Qt_loadR (w32 s.a) rfl (rfl)) rfl (zd hns2 rfl (zm (.int .u32 _) rfl) rfl (zd hns2 rfl (Qt_add32 rfl rfl) rfl (zd hns2 rfl (zm (.slice _ _ _) rfl) rfl (zd hns2 rfl (Qt_indexR rfl rfl (by omega) (by simp [wl])) rfl (zd hns2 rfl (Qt_loadR (w32 s.b) rfl (rfl)) rfl (zd hns2 rfl (zm (.int .u32 _) rfl) rfl (zd hns2 rfl (Qt_add32 rfl rfl) rfl (zd hns2 rfl (zm (.slice _ _ _) rfl) rfl ?_)))))))))))
 refine zd hns2 rfl (Qt_indexR rfl rfl (by omega) (by simp [wl])) rfl (zd hns2 rfl (Qt_loadR (w32 s.c) rfl (rfl)) rfl (zd hns2 rfl (zm (.int .u32 _) rfl) rfl (zd hns2 rfl (Qt_add32 rfl rfl) rfl (zd hns2 rfl (zm (.slice _ _ _) rfl) rfl (zd hns2 rfl (Qt_indexR rfl rfl (by omega) (by simp [wl])) rfl (zd hns2 rfl (Qt_loadR (w32 s.d) rfl (rfl)) rfl (zd hns2 rfl (zm (.int .u32 _) rfl) rfl (zd hns2 rfl (Qt_add32 rfl rfl) rfl (zd hns2 rfl (zm (.slice _ _ _) rfl) rfl (zd hns2 rfl (Qt_indexR rfl rfl (by omega) (by simp [wl])) rfl (zd hns2 rfl (Qt_loadR (w32 s.e) rfl (rfl)) rfl ?_)))))))))))
 refine zd hns2 rfl (zm (.int .u32 _) rfl) rfl (zd hns2 rfl (Qt_add32 rfl rfl) rfl (zd hns2 rfl (zm (.slice _ _ _) rfl) rfl (zd hns2 rfl (Qt_indexR rfl rfl (by omega) (by simp [wl])) rfl (zd hns2 rfl (Qt_loadR (w32 s.f) rfl (rfl)) rfl (zd hns2 rfl (zm (.int .u32 _) rfl) rfl (zd hns2 rfl (Qt_add32 rfl rfl) rfl (zd hns2 rfl (zm (.slice _ _ _) rfl) rfl (zd hns2 rfl (Qt_indexR rfl rfl (by omega) (by simp [wl])) rfl (zd hns2 rfl (Qt_loadR (w32 s.g) rfl (rfl)) rfl (zd hns2 rfl (zm (.int .u32 _) rfl) rfl (zd hns2 rfl (Qt_add32 rfl rfl) rfl ?_)))))))))))
 refine zd hns2 rfl (zm (.slice _ _ _) rfl) rfl (zd hns2 rfl (Qt_indexR rfl rfl (by omega) (by simp [wl])) rfl (zd hns2 rfl (Qt_loadR (w32 s.h) rfl (rfl)) rfl (zd hns2 rfl (zm (.int .u32 _) rfl) rfl (zd hns2 rfl (Qt_add32 rfl rfl) rfl (DL_e rfl rfl (Ef_sliceN (m := 8) [w32 (compress l s).a, w32 (compress l s).b, w32 (compress l s).c, w32 (compress l s).d, w32 (compress l s).e, w32 (compress l s).f, w32 (compress l s).g, w32 (compress l s).h] (wl (compress l s).list) rfl rfl rfl rfl (by simp [Value.cells]) rfl rfl (fun a211 c211 => ⟨SB, ?_⟩)))))))
 refine DL_e rfl rfl (Ef_append1 (sv := .slice _ _ _) (xv := .slice _ _ _) rfl rfl (wl_one _) (by simp [wl]) rfl (fun a212 c212 => ⟨SB, ?_⟩))
 rw [List.nil_append, show (wl (compress l s).list).length = 8 from rfl]
 refine zd hns2 rfl (za (.slice _ _ _) rfl) rfl (DL_nil (zx (T2 (Qms rfl rfl (Qas rfl rfl (TX (zQ ?_)))))))
 exact zX ⟨a212, c212⟩ [_] Tryz.results122 ⟨rfl, trivial⟩ rfl SB
theorem hash_fixed (s : S8) (i : Nat) (hi : i < 32) : (fixed (at32 s.list (i / 4)).toNat 4)[i % 4]'(by rw [fixed_length]; omega) = (hashOf s)[i] := by
 simp only [fixed, List.getElem_map, List.getElem_range, hashOf, Vector.getElem_ofFn]
 apply UInt8.toNat_inj.1
 rw [UInt8.toNat_ofNat', UInt8.toNat_ofNat', show (256 : Nat) = 2 ^ 8 from rfl, ← Nat.pow_mul, show 8 * (4 - 1 - i % 4) = 24 - 8 * (i % 4) by omega]
 omega

attribute [local irreducible] hashOf
theorem rSum_c {w0 : World} {H : List SA} {a : Option Addr} {l : List UInt8} {c : Nat} [hr : RdB w0 H (.slice a l.length c) l] (hl : l.length ≤ 4294967000) :
 CT Tryz.prog w0 (H) 75 [.slice a l.length c] (α := Unit) (fun _ => .agg (hlist (sha l)).toArray) (fun _ => H) := by
 refine CT_intro Tryz.func75 rfl Tryz.ntmps75 rfl (T2 (ze rfl (Ef_allocN (fun b2 => ?_))))
 refine T4 (Qas rfl rfl (T4 (Qms rfl rfl (Qms rfl rfl (ze rfl (Ef_appendB (sv := .slice _ _ _) (xv := .slice _ _ _) rfl rfl (by simp; omega) rfl (fun a10 c10 => ?_)))))))
 rw [List.nil_append]
 refine Qas rfl rfl (T4 (Qms rfl rfl (ze rfl (Ef_slice1 (v := .int .u8 128) rfl (fun a12 c12 => ?_)))))
 refine ze rfl (Ef_appendb (n := 128) (sv := .slice _ _ _) (xv := .slice _ _ _) rfl rfl (by decide) (by omega) rfl (fun a13 c13 => ?_))
 rw [show u8Of 128 = 128 from rfl]
 refine Qas rfl rfl (TX (zS (zB ?_)))
 refine T_loopg (m0 := zpad l.length) [3, 14, 15, 16, 17, 18, 19, 20] [3] (fun us H' m => ∃ (j : Nat) (a : Option Addr) (c : Nat), us = [.slice a (l ++ [128] ++ List.replicate j 0).length c] ∧ row (.slice a (l ++ [128] ++ List.replicate j 0).length c) 5 1 (bytesV (l ++ [128] ++ List.replicate j 0)) :: blk b2 (.cells (hlist (zeroV 32)).toArray 32 (0, 0)) :: H = H' ∧ j ≤ zpad l.length ∧ m = zpad l.length - j) ⟨0, a13, c13, by rw [List.replicate_zero, List.append_nil]; rfl, by rw [List.replicate_zero, List.append_nil], by omega, rfl⟩ SB ?_
 rintro τ0 _ _ m ⟨j, a1, c1, rfl, rfl, hj, rfl⟩ _
 refine zS (T2 (Qms rfl rfl (zy (zL rfl Tryz.underlying33) (zy (Qt_val (Qt_rem rfl rfl (by decide)) (congrArg (Value.int .i64) (tmod_nat _ 64))) (zy (Qt_neq rfl rfl) (TX (zC rfl (fun h17 => ?_) (fun h17 => ?_))))))))
 ·
  have p17 := cL h17
  have hjz : j < zpad l.length := by
   have hne : ((l ++ [128] ++ List.replicate j 0).length % 64 : Nat) ≠ 56 := by omega
   simp only [List.length_append, List.length_replicate, List.length_singleton] at hne
   rcases Nat.lt_or_ge j (zpad l.length) with h | h
   · exact h
   · have : j = zpad l.length := by omega
     subst this
     exfalso; apply hne; unfold zpad; omega
  refine zk (zx (zB (zR (Qms rfl rfl (ze rfl (Ef_slice1 (v := .int .u8 0) rfl (fun a19 c19 => ?_)))))))
  refine ze rfl (Ef_appendb (n := 0) (sv := .slice _ _ _) (xv := .slice _ _ _) rfl rfl (by decide) (by have hz : zpad l.length < 64 := Nat.mod_lt _ (by decide); simp; omega) rfl (fun a20 c20 => ?_))
  rw [show u8Of 0 = 0 from rfl, List.append_assoc (l ++ [128]), ← List.replicate_succ']
  refine Qas rfl rfl (zz (X_block ?_))
  refine X_loopg _ zA (⟨j + 1, a20, c20, rfl, rfl, by omega, rfl⟩) (by omega) (SB)
 have p17 := cL h17
 have hjz : j = zpad l.length := by
  have hne : ((l ++ [128] ++ List.replicate j 0).length % 64 : Nat) = 56 := by omega
  simp only [List.length_append, List.length_replicate, List.length_singleton] at hne
  unfold zpad at hj ⊢; omega
 subst hjz
 have hpm := padded_mod l l.length
 have hpl := padded_len l l.length
 have hzp : zpad l.length < 64 := Nat.mod_lt _ (by decide)
 refine zY (zG (X_loopg_exit (zE (zx (T2 (Qms rfl rfl (Qms rfl rfl (zy (zL rfl Tryz.underlying33) (zy (Qt_conv_u64 rfl rfl Tryz.underlying121 (by omega) (by omega)) (zy (Qt_val (Qt_mulw rfl rfl) (congrArg (Value.int .u64) (show IntKind.u64.wrap (8 * (l.length : Int)) = ((8 * l.length : Nat) : Int) from by rw [wrap_u64 (by omega) (by omega)]; omega))) (ze rfl (zc (rFixed_c (x := ((8 * l.length : Nat) : Int)) (n := 8) (by omega) (by omega)) rfl (fun x26 => ?_)))))))))))))
 rw [show fixedR ((8 * l.length : Nat) : Int) 8 = fixed (8 * l.length) 8 from rfl]
 refine ze rfl (Ef_appendB (sv := .slice _ _ _) (xv := .slice _ _ _) rfl rfl (by have hz : zpad l.length < 64 := Nat.mod_lt _ (by decide); simp [fixed_length]; omega) rfl (fun a27 c27 => ?_))
 rw [show l ++ [128] ++ List.replicate (zpad l.length) 0 ++ fixed (8 * l.length) 8 = padded l l.length from rfl]
 refine Qas rfl rfl (T4 (Qas rfl rfl (T4 (Qms rfl rfl (ze rfl (Ef_sliceN (m := 8) (wl S8.init.list) (wl S8.init.list) rfl rfl rfl rfl (by intro v hv; simp only [wl, List.mem_map] at hv; obtain ⟨x, -, rfl⟩ := hv; rfl) rfl rfl (fun a29 c29 => ?_)))))))
 refine ze rfl (Ef_append1 (sv := .slice _ _ _) (xv := .slice _ _ _) rfl rfl (wl_one _) (by simp [wl]) rfl (fun a30 c30 => ?_))
 rw [List.nil_append, show (wl S8.init.list).length = 8 from rfl]
 refine Qas rfl rfl (TX (zS (T2 (Qai rfl rfl (TX (zB ?_))))))
 refine T_loop [4, 5, 31, 32, 33, 34, 35, 36, 37, 38, 39, 40, 41, 42, 43] [5, 4] (fun us H' => ∃ (k : Nat) (a : Option Addr) (c : Nat), us = [.int .i64 ((64 * k : Nat) : Int), .slice a 8 c] ∧ row (.slice a 8 c) 202 1 (wl (shaB (k) (padded l l.length) S8.init).list) :: row (.slice a27 (padded l l.length).length c27) 5 1 (bytesV (padded l l.length)) :: blk b2 (.cells (hlist (zeroV 32)).toArray 32 (0, 0)) :: H = H' ∧ 64 * k ≤ (padded l l.length).length) (fun us => match us with | .int _ i :: _ => (padded l l.length).length - i.toNat | _ => 0) ⟨0, a30, c30, rfl, rfl, by omega⟩ (fun w hw => by rw [show shaB 0 (padded l l.length) S8.init = S8.init from rfl]; exact SB w hw) ?_
 rintro τ1 _ _  ⟨k, a1, c1, rfl, rfl, hk⟩ _
 refine zS (T2 (Qmi rfl rfl (Qms rfl rfl (zy (zL rfl Tryz.underlying33) (zy (Qt_lss rfl rfl) (TX (zC rfl (fun h34 => ?_) (fun h34 => ?_))))))))
 ·
  have p34 := cL h34
  have hk64 : 64 * k + 64 ≤ (padded l l.length).length := by omega
  refine zk (zx (zS (zB (zR (Qms rfl rfl (Qms rfl rfl (Qmi rfl rfl (Qmi rfl rfl (zy (zj rfl rfl) (zy (Qt_sliceB_lh (64 * k) 64 rfl rfl (by refine congrArg (Value.int .i64) ?_; omega) (by omega)) ?_))))))))))
  refine ze rfl (zc (rblock_c (l := ((padded l l.length).drop (64 * k)).take 64) (s := shaB k (padded l l.length) S8.init) (by simp; omega)) rfl (fun x43 => ?_))
  rw [← shaB_snoc k _ _ (by omega)]
  refine Qas rfl rfl (zz (X_block (zx (zR ?_))))
  refine Qmi rfl rfl (zy (zj rfl rfl) (Qai rfl rfl (zz (X_loop _ zA (⟨k + 1, x43.a, x43.c, by rw [show ((64 * (k + 1) : Nat) : Int) = ((64 * k : Nat) : Int) + 64 from by omega]; rfl, rfl, by omega⟩) (by show (padded l l.length).length - ((64 * k : Nat) + 64 : Int).toNat < (padded l l.length).length - ((64 * k : Nat) : Int).toNat; omega) (SB)))))
 have p34 := cL h34
 have hke : k = (padded l l.length).length / 64 := by omega
 subst hke
 refine zY (zG (zW (zE (zx (T2 (zy (Qt_build_arr (hlist (zeroV 32)).toArray Tryz.underlying32 rfl rfl rfl) (ze rfl (Ef_allocN (fun b6 => ?_)))))))))
 refine zN (zs rfl rfl (TX (zS (T2 (Qai rfl rfl (TX (zB ?_)))))))
 refine T_loop [7, 45, 46, 47, 48, 49, 50, 51, 52, 53, 54, 55, 56, 57, 58, 59, 60, 61] [7] (fun us H' => ∃ (i : Nat), us = [.int .i64 (i : Int)] ∧ blk b6 (.cells (hlist (hfirst (hashOf (shaB ((padded l l.length).length / 64) (padded l l.length) S8.init)) i)).toArray 32 (0, 0)) :: row (.slice a1 8 c1) 202 1 (wl (shaB ((padded l l.length).length / 64) (padded l l.length) S8.init).list) :: row (.slice a27 (padded l l.length).length c27) 5 1 (bytesV (padded l l.length)) :: blk b2 (.cells (hlist (zeroV 32)).toArray 32 (0, 0)) :: H = H' ∧ i ≤ 32) (fun us => match us with | .int _ i :: _ => 32 - i.toNat | _ => 0) ⟨0, rfl, rfl, by omega⟩ (fun w hw => by rw [hfirst_zero]; exact SB w hw) ?_
 rintro τ2 _ _  ⟨i, rfl, rfl, hi0⟩ _
 refine zS (T2 (Qmi rfl rfl (zy (Qt_lss rfl rfl) (TX (zC rfl (fun h46 => ?_) (fun h46 => ?_))))))
 ·
  have p46 := cL h46
  have hi : i < 32 := by omega
  refine zk (zx (zS (zB (zR (Qmi rfl rfl (Qms rfl rfl (Qmi rfl rfl (zy (Qt_val (Qt_quo rfl rfl (by decide)) (congrArg (Value.int .i64) (show IntKind.i64.wrap ((i : Int).tdiv 4) = ((i / 4 : Nat) : Int) from by rw [show (i : Int).tdiv 4 = ((i / 4 : Nat) : Int) from rfl, wrap_i64 (by omega) (by omega)]))) (zy (Qt_indexR rfl rfl (by omega) (by simp [wl]; omega)) (zy (Qt_loadR (w32 (at32 (shaB ((padded l l.length).length / 64) (padded l l.length) S8.init).list (i / 4))) rfl (by rw [Int.toNat_natCast, wl_get _ _ (show i / 4 < (shaB ((padded l l.length).length / 64) (padded l l.length) S8.init).list.length by show i / 4 < 8; omega), at32, List.getElem?_eq_getElem (show i / 4 < (shaB ((padded l l.length).length / 64) (padded l l.length) S8.init).list.length by show i / 4 < 8; omega)]; rfl)) ?_))))))))))
  refine zy (Qt_conv_u64 rfl rfl Tryz.underlying121 (by omega) (by have := (at32 (shaB ((padded l l.length).length / 64) (padded l l.length) S8.init).list (i / 4)).toNat_lt; omega)) (ze rfl (zc (rFixed_c (x := ((at32 (shaB ((padded l l.length).length / 64) (padded l l.length) S8.init).list (i / 4)).toNat : Int)) (n := 4) (by omega) (by have := (at32 (shaB ((padded l l.length).length / 64) (padded l l.length) S8.init).list (i / 4)).toNat_lt; omega)) rfl (fun x56 => ?_)))
  rw [show fixedR ((at32 (shaB ((padded l l.length).length / 64) (padded l l.length) S8.init).list (i / 4)).toNat : Int) 4 = fixed (at32 (shaB ((padded l l.length).length / 64) (padded l l.length) S8.init).list (i / 4)).toNat 4 from rfl]
  refine Qmi rfl rfl (zy (Qt_val (Qt_rem rfl rfl (by decide)) (congrArg (Value.int .i64) (tmod_nat _ 4))) (zy (Qt_indexR rfl rfl (by omega) (by simp [fixed_length]; omega)) (zy (Qt_loadR (.int .u8 ((hashOf (shaB ((padded l l.length).length / 64) (padded l l.length) S8.init))[i].toNat : Int)) rfl (by rw [← hash_fixed _ i hi]; exact bytes_get _ _ (by rw [fixed_length]; omega))) ?_)))
  have hput : Put (hlist (hfirst (hashOf (shaB ((padded l l.length).length / 64) (padded l l.length) S8.init)) i)).toArray (0 + (i : Int).toNat * 1) (.int .u8 ((hashOf (shaB ((padded l l.length).length / 64) (padded l l.length) S8.init))[i].toNat : Int)) (hlist (hfirst (hashOf (shaB ((padded l l.length).length / 64) (padded l l.length) S8.init)) (i + 1))).toArray := by have := putAtH (h := hfirst (hashOf (shaB ((padded l l.length).length / 64) (padded l l.length) S8.init)) i) (m := 0 + (i : Int).toNat * 1) (i := i) (c := (hashOf (shaB ((padded l l.length).length / 64) (padded l l.length) S8.init))[i]) (by simp) hi; rwa [hfirst_set _ _ hi] at this
  refine zy (Qt_indexAddr_arr (sz := 1) rfl rfl Tryz.underlying32 rfl rfl (by omega) (by omega)) (zN (Ef_store1 (.int .u8 _) rfl rfl (zz (X_block (zx (zR ?_))))))
  refine Qmi rfl rfl (zy (zj rfl rfl) (Qai rfl rfl (zz (X_loop _ zA (⟨i + 1, rfl, rfl, by omega⟩) (by show 32 - (i + 1 : Int).toNat < 32 - (i : Int).toNat; omega) (SB)))))
 have p46 := cL h46
 have hi : i = 32 := by omega
 subst hi
 rw [hfirst_all]
 refine zY (zG (zW (zE (zx (T2 (zy (zn rfl rfl) (zN (zs rfl rfl (TX (zQ ?_))))))))))
 exact zX () [_] Tryz.results75 ⟨⟨_, rfl, res_cellN rfl⟩, trivial⟩ rfl SB
end Go.Proofs.YtnijomppbgdmnaaGreat
