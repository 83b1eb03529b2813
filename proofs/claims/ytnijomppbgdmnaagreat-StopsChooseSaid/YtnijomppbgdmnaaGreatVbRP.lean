/- Walks: what follows from what members tell: comparisons, MaxFunc, DeleteFunc, follows. -/
import Derived.Test.YtnijomppbgdmnaaGreatSgP
import Derived.Test.YtnijomppbgdmnaaGreatVaRP
import Derived.Test.YtnijomppbgdmnaaGreatSjP
import Derived.Test.YtnijomppbgdmnaaGreatSuP
namespace Go.Proofs.YtnijomppbgdmnaaGreat
section
open Go.RowKit Go.Sx
set_option maxRecDepth 100000
set_option linter.unusedSimpArgs false
set_option linter.unusedVariables false
structure GoodT (t : ToldV) : Prop where
 l : 0 ≤ t.b.last ∧ t.b.last ≤ 60
 r : -1 ≤ t.b.reg ∧ t.b.reg ≤ 41
 f : 0 ≤ t.frm ∧ t.frm ≤ 15
def cmpL (x y : ToldV) : Int := x.b.last - y.b.last
def cmpR (x y : ToldV) : Int := if x.b.reg ≠ y.b.reg then x.b.reg - y.b.reg else y.frm - x.frm
/-- The greatest of the first of a list, by a comparison. -/
def mxK (f : ToldV → ToldV → Int) (ls : List ToldV) : Nat → ToldV
 | 0 => ls.getD 0 ToldV.zero
 | k + 1 => if 0 < f (ls.getD (k + 1) ToldV.zero) (mxK f ls k) then ls.getD (k + 1) ToldV.zero else mxK f ls k
theorem mxK_zero (f : ToldV → ToldV → Int) (ls : List ToldV) : mxK f ls 0 = ls.getD 0 ToldV.zero := rfl
theorem mxK_succ (f : ToldV → ToldV → Int) (ls : List ToldV) (k : Nat) : mxK f ls (k + 1) = if 0 < f (ls.getD (k + 1) ToldV.zero) (mxK f ls k) then ls.getD (k + 1) ToldV.zero else mxK f ls k := rfl
theorem getD_at {ls : List ToldV} {k : Nat} (h : k < ls.length) : ls.getD k ToldV.zero = ls[k] := by rw [List.getD_eq_getElem?_getD, List.getElem?_eq_getElem h]; rfl
theorem mxK_mem (f : ToldV → ToldV → Int) (ls : List ToldV) : ∀ k, k < ls.length → mxK f ls k ∈ ls
 | 0, h => by rw [mxK_zero, getD_at h]; exact List.getElem_mem h
 | k + 1, h => by
  rw [mxK_succ]
  split
  · rw [getD_at h]; exact List.getElem_mem h
  · exact mxK_mem f ls k (by omega)
def delT (last : Int) (t : ToldV) : Bool := decide (t.b.last ≠ last) || !t.b.has
theorem del_store (kl : List ToldV) (q v : ToldV) (rest : List ToldV) : ((kl ++ (q :: rest)).flatMap ToldV.list).take (kl.length * 37) ++ (v.cells.toList ++ ((kl ++ (q :: rest)).flatMap ToldV.list).drop (kl.length * 37 + 37)) = ((kl ++ [v]) ++ rest).flatMap ToldV.list := by
 have e1 := flat_len ToldV.list 37 ToldV.list_len kl
 have e2 := ToldV.list_len q
 rw [List.flatMap_append, List.flatMap_cons, List.take_left' e1, ← List.drop_drop, List.drop_left' e1, List.drop_left' e2]
 simp [ToldV.cells]
theorem del_clear (kl jk : List ToldV) : ((kl ++ jk).flatMap ToldV.list).take (kl.length * 37) = kl.flatMap ToldV.list := by
 rw [List.flatMap_append, List.take_left' (flat_len ToldV.list 37 ToldV.list_len kl)]
theorem row_le {w0 w : World} {H : List SA} {a : Option Addr} {n c e sz : Nat} {xs : List Value} (h : St w0 (row (.slice a n c) e sz xs :: H) w) : n ≤ c := by
 obtain ⟨a', n', c', hv, -, hn, -⟩ := h.holds (row (.slice a n c) e sz xs) (by simp)
 simp at hv; omega
theorem toldZ {z : Value} (h : (Tryz.prog.info? 93).bind (·.zero) = some z) : ∀ u ∈ z.cells.toList, u.oneCell' = true := by
 have h2 := (inferInstance : TyZ Tryz.prog 93 (.agg ToldV.zero.cells)).ok
 rw [h2] at h
 obtain rfl := Option.some.inj h
 exact (inferInstance : Cells ToldV.zero.cells _).one

set_option maxHeartbeats 1000000 in
theorem cmpL_c {w0 : World} {H : List SA} {x y : ToldV} (hx : GoodT x) (hy : GoodT y) :
 CT Tryz.prog w0 (H) 65 [.agg x.cells, .agg y.cells] (α := Unit) (fun _ => .int .i64 (cmpL x y)) (fun _ => H) := by
 have hxl := hx.l
 have hyl := hy.l
 have hxr := hx.r
 have hyr := hy.r
 have hxf := hx.f
 have hyf := hy.f
 refine CT_intro Tryz.func65 rfl Tryz.ntmps65 rfl ?_
 refine T2 ?_
 refine ze rfl (Ef_boxN rfl (fun b2 => ?_))
 refine ze rfl (Ef_boxN rfl (fun b3 => ?_))
 refine Qai rfl rfl (T4 (zq (zf 1 rfl rfl) rfl (zq (zf 1 rfl rfl) rfl (zq (zl rfl) rfl (zq (zf 1 rfl rfl) rfl ?_)))))
 refine zq (zf 1 rfl rfl) rfl (zq (zl rfl) rfl (zq (Qt_sub rfl rfl (by omega) (by omega)) rfl (Qai rfl rfl (TX (zQ ?_)))))
 exact zX () [_] Tryz.results65 ⟨rfl, trivial⟩ rfl SB
set_option maxHeartbeats 1000000 in
theorem cmpR_c {w0 : World} {H : List SA} {x y : ToldV} (hx : GoodT x) (hy : GoodT y) :
 CT Tryz.prog w0 (H) 68 [.agg x.cells, .agg y.cells] (α := Unit) (fun _ => .int .i64 (cmpR x y)) (fun _ => H) := by
 have hxl := hx.l
 have hyl := hy.l
 have hxr := hx.r
 have hyr := hy.r
 have hxf := hx.f
 have hyf := hy.f
 refine CT_intro Tryz.func68 rfl Tryz.ntmps68 rfl ?_
 refine T2 ?_
 refine ze rfl (Ef_boxN rfl (fun b2 => ?_))
 refine ze rfl (Ef_boxN rfl (fun b3 => ?_))
 refine Qai rfl rfl (TX (zS (T2 ?_)))
 refine zq (zf 1 rfl rfl) rfl (zq (zf 3 rfl rfl) rfl (zq (zl rfl) rfl (zq (zf 1 rfl rfl) rfl (zq (zf 3 rfl rfl) rfl (zq (zl rfl) rfl ?_)))))
 refine zq (Qt_neq rfl rfl) rfl (TX (zC rfl (fun h11 => ?_) (fun h11 => ?_)))
 ·
  have p11 := h11
  try simp only [dp] at p11
  refine T2 (zq (zf 1 rfl rfl) rfl (zq (zf 3 rfl rfl) rfl (zq (zl rfl) rfl (zq (zf 1 rfl rfl) rfl (zq (zf 3 rfl rfl) rfl ?_)))))
  refine zq (zl rfl) rfl (zq (Qt_sub rfl rfl (by omega) (by omega)) rfl (Qai rfl rfl (TX (zQ (zr ?_)))))
  have e : cmpR x y = x.b.reg - y.b.reg := if_pos (by simpa using h11)
  rw [e]
  exact zX () [_] Tryz.results68 ⟨rfl, trivial⟩ rfl SB
 have p11 := h11
 try simp only [dp] at p11
 refine S4 (zq (zf 0 rfl rfl) rfl (zq (zl rfl) rfl (zq (zf 0 rfl rfl) rfl (zq (zl rfl) rfl (zq (Qt_sub rfl rfl (by omega) (by omega)) rfl ?_)))))
 refine Qai rfl rfl (TX (zQ ?_))
 have e : cmpR x y = y.frm - x.frm := if_neg (by simpa using h11)
 rw [e]
 exact zX () [_] Tryz.results68 ⟨rfl, trivial⟩ rfl SB
set_option maxHeartbeats 1000000 in
theorem pred_c {w0 : World} {H : List SA} {p : Nat} {last : Int} [hp : Mem w0 H p (.cells #[.int .i64 last] 3 (0, 0))] {t : ToldV} :
 CT Tryz.prog w0 (H) 67 [.agg t.cells, .pointer (some ⟨p, 0, none⟩)] (α := Unit) (fun _ => .bool (delT last t)) (fun _ => H) := by
 refine CT_intro Tryz.func67 rfl Tryz.ntmps67 rfl ?_
 refine T2 ?_
 refine ze rfl (Ef_boxN rfl (fun b2 => ?_))
 refine Qab rfl rfl (T4 (zq (zf 1 rfl rfl) rfl (zq (zf 1 rfl rfl) rfl (zq (zl rfl) rfl (zq (zl rfl) rfl ?_)))))
 refine zq (Qt_neq rfl rfl) rfl (Qmb rfl rfl ?_)
 refine TL_split 9 rfl (fun h9 => ?_) (fun h9 => ?_)
 ·
  have p9 := h9
  try simp only [dp] at p9
  refine zp rfl rfl h9 rfl (zp rfl rfl h9 rfl (zp rfl rfl h9 rfl (zp rfl rfl h9 rfl (zq (zT (.bool _) rfl h9 rfl) rfl (Qab rfl rfl ?_)))))
  refine TX (zQ ?_)
  refine zX () [.bool (delT last t)] Tryz.results67 ⟨?_, trivial⟩ rfl SB
  refine congrArg Value.bool ?_
  unfold delT
  simp_all
 have p9 := h9
 try simp only [dp] at p9
 refine zt rfl rfl h9 (zq (zf 1 rfl rfl) rfl (zt rfl rfl h9 (zq (zf 2 rfl rfl) rfl (zt rfl rfl h9 (zq (zl rfl) rfl ?_)))))
 refine zt rfl rfl h9 (zq (Qt_not rfl) rfl (zq (zF (.bool _) rfl h9 rfl) rfl (Qab rfl rfl (TX (zQ ?_)))))
 refine zX () [.bool (delT last t)] Tryz.results67 ⟨?_, trivial⟩ rfl SB
 refine congrArg Value.bool ?_
 unfold delT
 simp_all
set_option maxHeartbeats 1000000 in
theorem maxL_c {w0 : World} {H : List SA} {a : Option Addr} {ls : List ToldV} {c : Nat} [hr : RdC w0 H (.slice a ls.length c) 37 (ls.flatMap ToldV.list)] (hn : ls.length ≤ 1000) (h0 : 0 < ls.length) (hg : ∀ t ∈ ls, GoodT t) :
 CT Tryz.prog w0 (H) 64 [.slice a ls.length c, .func (.func 65) #[] #[]] (α := Unit) (fun _ => .agg (mxK cmpL ls (ls.length - 1)).cells) (fun _ => H) := by
 refine CT_intro Tryz.func64 rfl Tryz.ntmps64 rfl ?_
 refine T2 ?_
 refine ze rfl (Ef_allocN (fun b4 => ?_))
 refine TX (zS (T2 ?_))
 refine Qms rfl rfl (zq (zL rfl Tryz.underlying85) rfl (zq (Qt_lss rfl rfl) rfl (TX (zC rfl (fun h9 => ?_) (fun h9 => ?_)))))
 ·
  have p9 := h9
  try simp only [dp] at p9
  exact absurd p9 (by omega)
 have p9 := h9
 try simp only [dp] at p9
 refine S4 (Qms rfl rfl (zq (Qt_indexN rfl rfl (by omega) (by omega)) rfl (zq (Qt_val (Qt_loadRN 37 ls[0].list rfl (flat_slice _ 37 ToldV.list_len ls (0) h0) (ToldV.list_len _) (by decide)) (show Value.agg ls[0].list.toArray = Value.agg ls[0].cells from rfl)) rfl ?_)))
 refine ze rfl (Ef_allocN (fun b5 => ?_))
 refine zN (zs rfl rfl (?_))
 refine TX (zS (T2 ?_))
 refine Qai rfl rfl (TX (zB ?_))
 refine T_loop [6, 14, 15, 16, 17, 18, 19, 20, 21, 22, 23, 24, 25, 26, 27, 28, 29, 30, 31] [6] (fun us H' => ∃ (k : Nat), us = [.int .i64 ((k + 1 : Nat) : Int)] ∧ blk b5 (.cells (mxK cmpL ls k).cells 93 (0, 0)) :: blk b4 (.cells ToldV.zero.cells 93 (0, 0)) :: H = H' ∧ k + 1 ≤ ls.length) (fun us => match us with | .int _ i :: _ => ls.length - i.toNat | _ => 0) ⟨0, rfl, rfl, by omega⟩ (fun w hw => by rw [mxK_zero, getD_at h0]; exact SB w hw) ?_
 rintro τ0 _ _  ⟨k, rfl, rfl, hk0⟩ _
 refine zS (T2 ?_)
 refine Qmi rfl rfl (Qms rfl rfl (zq (zL rfl Tryz.underlying85) rfl (zq (Qt_lss rfl rfl) rfl (TX (zC rfl (fun h17 => ?_) (fun h17 => ?_))))))
 ·
  have p17 := h17
  try simp only [dp] at p17
  have hk : k + 1 < ls.length := by omega
  have hms := mxK_succ cmpL ls k
  rw [getD_at hk] at hms
  refine zk (zx (zS (zB (zS ?_))))
  refine T_draw (blk b5 (.cells (mxK cmpL ls k).cells 93 (0, 0)) :: H) [(0, true), (1, true), (2, true), (3, true), (4, true), (5, true), (6, false), (7, true)] (by kernel_rfl) (by kernel_rfl) rfl (by kernel_rfl) SB (fun hns0 => ?_)
  refine zd hns0 rfl (zm _ rfl) rfl (zd hns0 rfl (zm (.slice _ _ _) rfl) rfl (zd hns0 rfl (zm (.int .i64 _) rfl) rfl (zd hns0 rfl (Qt_indexN rfl rfl (by omega) (by omega)) rfl (zd hns0 rfl (Qt_val (Qt_loadRN 37 ls[k + 1].list rfl (flat_slice _ 37 ToldV.list_len ls (k + 1) hk) (ToldV.list_len _) (by decide)) (show Value.agg ls[k + 1].list.toArray = Value.agg ls[k + 1].cells from rfl)) rfl (zd hns0 rfl (zn rfl rfl) rfl ?_)))))
  refine DL_e rfl rfl (Ef_callF (argv := [_, _]) (caps := []) (cmpL_c (x := ls[k + 1]) (y := (mxK cmpL ls k)) (hg _ (List.getElem_mem hk)) (hg _ (mxK_mem cmpL ls k (by omega)))) rfl rfl (fun x26 => ⟨SB, ?_⟩))
  refine zd hns0 rfl (Qt_gtr rfl rfl) rfl (DL_nil (zx (zC rfl (fun h27 => ?_) (fun h27 => ?_))))
  ·
   have p27 := h27
   try simp only [dp] at p27
   rw [if_pos (by omega)] at hms
   refine zR (Qms rfl rfl (Qmi rfl rfl (zq (Qt_indexN rfl rfl (by omega) (by omega)) rfl (zq (Qt_val (Qt_loadRN 37 ls[k + 1].list rfl (flat_slice _ 37 ToldV.list_len ls (k + 1) hk) (ToldV.list_len _) (by decide)) (show Value.agg ls[k + 1].list.toArray = Value.agg ls[k + 1].cells from rfl)) rfl ?_))))
   refine zN (zs rfl rfl (?_))
   refine zz (X_block (zx (zR ?_)))
   refine Qmi rfl rfl (zq (Qt_add rfl rfl (by omega) (by omega)) rfl (Qai rfl rfl (zz ?_)))
   apply X_loop
   case ha => exact (by repeat (first | with_reducible exact agree_refl | refine agree_upd rfl ?_ | refine agree_mix rfl ?_ | refine agree_setAll rfl ?_))
   case hI => exact ⟨k + 1, rfl, rfl, by omega⟩
   case hm => exact by show ls.length - (((k + 1 : Nat) : Int) + 1).toNat < ls.length - ((k + 1 : Nat) : Int).toNat; omega
   case hH => exact (fun w hw => by rw [hms]; exact SB w hw)
  have p27 := h27
  try simp only [dp] at p27
  rw [if_neg (by omega)] at hms
  refine zk (X_block (zx (zR ?_)))
  refine Qmi rfl rfl (zq (Qt_add rfl rfl (by omega) (by omega)) rfl (Qai rfl rfl (zz ?_)))
  apply X_loop
  case ha => exact (by repeat (first | with_reducible exact agree_refl | refine agree_upd rfl ?_ | refine agree_mix rfl ?_ | refine agree_setAll rfl ?_))
  case hI => exact ⟨k + 1, rfl, rfl, by omega⟩
  case hm => exact by show ls.length - (((k + 1 : Nat) : Int) + 1).toNat < ls.length - ((k + 1 : Nat) : Int).toNat; omega
  case hH => exact (fun w hw => by rw [hms]; exact SB w hw)
 have p17 := h17
 try simp only [dp] at p17
 have hkn : k = ls.length - 1 := by omega
 subst hkn
 refine zY (zG (zW (zE (zx (T2 ?_)))))
 refine zq (zn rfl rfl) rfl ?_
 refine zN (zs rfl rfl (?_))
 refine TX (zQ ?_)
 exact zX () [_] Tryz.results64 ⟨⟨_, rfl, res_cellN rfl⟩, trivial⟩ rfl SB
set_option maxHeartbeats 1000000 in
theorem maxR_c {w0 : World} {H : List SA} {a : Option Addr} {ls : List ToldV} {c : Nat} [hr : RdC w0 H (.slice a ls.length c) 37 (ls.flatMap ToldV.list)] (hn : ls.length ≤ 1000) (h0 : 0 < ls.length) (hg : ∀ t ∈ ls, GoodT t) :
 CT Tryz.prog w0 (H) 64 [.slice a ls.length c, .func (.func 68) #[] #[]] (α := Unit) (fun _ => .agg (mxK cmpR ls (ls.length - 1)).cells) (fun _ => H) := by
 refine CT_intro Tryz.func64 rfl Tryz.ntmps64 rfl ?_
 refine T2 ?_
 refine ze rfl (Ef_allocN (fun b4 => ?_))
 refine TX (zS (T2 ?_))
 refine Qms rfl rfl (zq (zL rfl Tryz.underlying85) rfl (zq (Qt_lss rfl rfl) rfl (TX (zC rfl (fun h9 => ?_) (fun h9 => ?_)))))
 ·
  have p9 := h9
  try simp only [dp] at p9
  exact absurd p9 (by omega)
 have p9 := h9
 try simp only [dp] at p9
 refine S4 (Qms rfl rfl (zq (Qt_indexN rfl rfl (by omega) (by omega)) rfl (zq (Qt_val (Qt_loadRN 37 ls[0].list rfl (flat_slice _ 37 ToldV.list_len ls (0) h0) (ToldV.list_len _) (by decide)) (show Value.agg ls[0].list.toArray = Value.agg ls[0].cells from rfl)) rfl ?_)))
 refine ze rfl (Ef_allocN (fun b5 => ?_))
 refine zN (zs rfl rfl (?_))
 refine TX (zS (T2 ?_))
 refine Qai rfl rfl (TX (zB ?_))
 refine T_loop [6, 14, 15, 16, 17, 18, 19, 20, 21, 22, 23, 24, 25, 26, 27, 28, 29, 30, 31] [6] (fun us H' => ∃ (k : Nat), us = [.int .i64 ((k + 1 : Nat) : Int)] ∧ blk b5 (.cells (mxK cmpR ls k).cells 93 (0, 0)) :: blk b4 (.cells ToldV.zero.cells 93 (0, 0)) :: H = H' ∧ k + 1 ≤ ls.length) (fun us => match us with | .int _ i :: _ => ls.length - i.toNat | _ => 0) ⟨0, rfl, rfl, by omega⟩ (fun w hw => by rw [mxK_zero, getD_at h0]; exact SB w hw) ?_
 rintro τ0 _ _  ⟨k, rfl, rfl, hk0⟩ _
 refine zS (T2 ?_)
 refine Qmi rfl rfl (Qms rfl rfl (zq (zL rfl Tryz.underlying85) rfl (zq (Qt_lss rfl rfl) rfl (TX (zC rfl (fun h17 => ?_) (fun h17 => ?_))))))
 ·
  have p17 := h17
  try simp only [dp] at p17
  have hk : k + 1 < ls.length := by omega
  have hms := mxK_succ cmpR ls k
  rw [getD_at hk] at hms
  refine zk (zx (zS (zB (zS ?_))))
  refine T_draw (blk b5 (.cells (mxK cmpR ls k).cells 93 (0, 0)) :: H) [(0, true), (1, true), (2, true), (3, true), (4, true), (5, true), (6, false), (7, true)] (by kernel_rfl) (by kernel_rfl) rfl (by kernel_rfl) SB (fun hns0 => ?_)
  refine zd hns0 rfl (zm _ rfl) rfl (zd hns0 rfl (zm (.slice _ _ _) rfl) rfl (zd hns0 rfl (zm (.int .i64 _) rfl) rfl (zd hns0 rfl (Qt_indexN rfl rfl (by omega) (by omega)) rfl (zd hns0 rfl (Qt_val (Qt_loadRN 37 ls[k + 1].list rfl (flat_slice _ 37 ToldV.list_len ls (k + 1) hk) (ToldV.list_len _) (by decide)) (show Value.agg ls[k + 1].list.toArray = Value.agg ls[k + 1].cells from rfl)) rfl (zd hns0 rfl (zn rfl rfl) rfl ?_)))))
  refine DL_e rfl rfl (Ef_callF (argv := [_, _]) (caps := []) (cmpR_c (x := ls[k + 1]) (y := (mxK cmpR ls k)) (hg _ (List.getElem_mem hk)) (hg _ (mxK_mem cmpR ls k (by omega)))) rfl rfl (fun x26 => ⟨SB, ?_⟩))
  refine zd hns0 rfl (Qt_gtr rfl rfl) rfl (DL_nil (zx (zC rfl (fun h27 => ?_) (fun h27 => ?_))))
  ·
   have p27 := h27
   try simp only [dp] at p27
   rw [if_pos (by omega)] at hms
   refine zR (Qms rfl rfl (Qmi rfl rfl (zq (Qt_indexN rfl rfl (by omega) (by omega)) rfl (zq (Qt_val (Qt_loadRN 37 ls[k + 1].list rfl (flat_slice _ 37 ToldV.list_len ls (k + 1) hk) (ToldV.list_len _) (by decide)) (show Value.agg ls[k + 1].list.toArray = Value.agg ls[k + 1].cells from rfl)) rfl ?_))))
   refine zN (zs rfl rfl (?_))
   refine zz (X_block (zx (zR ?_)))
   refine Qmi rfl rfl (zq (Qt_add rfl rfl (by omega) (by omega)) rfl (Qai rfl rfl (zz ?_)))
   apply X_loop
   case ha => exact (by repeat (first | with_reducible exact agree_refl | refine agree_upd rfl ?_ | refine agree_mix rfl ?_ | refine agree_setAll rfl ?_))
   case hI => exact ⟨k + 1, rfl, rfl, by omega⟩
   case hm => exact by show ls.length - (((k + 1 : Nat) : Int) + 1).toNat < ls.length - ((k + 1 : Nat) : Int).toNat; omega
   case hH => exact (fun w hw => by rw [hms]; exact SB w hw)
  have p27 := h27
  try simp only [dp] at p27
  rw [if_neg (by omega)] at hms
  refine zk (X_block (zx (zR ?_)))
  refine Qmi rfl rfl (zq (Qt_add rfl rfl (by omega) (by omega)) rfl (Qai rfl rfl (zz ?_)))
  apply X_loop
  case ha => exact (by repeat (first | with_reducible exact agree_refl | refine agree_upd rfl ?_ | refine agree_mix rfl ?_ | refine agree_setAll rfl ?_))
  case hI => exact ⟨k + 1, rfl, rfl, by omega⟩
  case hm => exact by show ls.length - (((k + 1 : Nat) : Int) + 1).toNat < ls.length - ((k + 1 : Nat) : Int).toNat; omega
  case hH => exact (fun w hw => by rw [hms]; exact SB w hw)
 have p17 := h17
 try simp only [dp] at p17
 have hkn : k = ls.length - 1 := by omega
 subst hkn
 refine zY (zG (zW (zE (zx (T2 ?_)))))
 refine zq (zn rfl rfl) rfl ?_
 refine zN (zs rfl rfl (?_))
 refine TX (zQ ?_)
 exact zX () [_] Tryz.results64 ⟨⟨_, rfl, res_cellN rfl⟩, trivial⟩ rfl SB
set_option maxHeartbeats 1000000 in
theorem indexT_c {w0 : World} {H : List SA} {p : Nat} {last : Int} [hp : Mem w0 H p (.cells #[.int .i64 last] 3 (0, 0))] {a : Option Addr} {ls : List ToldV} {c : Nat} [hr : RdC w0 H (.slice a ls.length c) 37 (ls.flatMap ToldV.list)] (hn : ls.length ≤ 1000) :
 CT Tryz.prog w0 (H) 111 [.slice a ls.length c, .func (.func 67) #[] #[.pointer (some ⟨p, 0, none⟩)]] (α := Int) (fun r => .int .i64 r) (fun r => pu ((r = -1 ∧ ∀ t ∈ ls, delT last t = false) ∨ ∃ k : Nat, r = (k : Int) ∧ ∃ hk : k < ls.length, delT last ls[k] = true ∧ ∀ (j : Nat) (hj : j < ls.length), j < k → delT last ls[j] = false) :: H) := by
 refine CT_intro Tryz.func111 rfl Tryz.ntmps111 rfl ?_
 refine T2 (Qai rfl rfl (TX (zS (T2 ?_))))
 refine Qms rfl rfl (zq (zL rfl Tryz.underlying85) rfl (Qmi rfl rfl (TX (zB ?_))))
 refine T_loop [4, 5, 8, 9, 10, 11, 12, 13, 14, 15, 16, 17, 18] [8] (fun us H' => ∃ (k : Nat), us = [.int .i64 (k : Int)] ∧ H = H' ∧ k ≤ ls.length ∧ (∀ (j : Nat) (hj : j < ls.length), j < k → delT last ls[j] = false)) (fun us => match us with | .int _ i :: _ => ls.length - i.toNat | _ => 0) ⟨0, rfl, rfl, by omega, fun j hj h => by omega⟩ SB ?_
 rintro τ0 _ _  ⟨k, rfl, rfl, hk0, hno⟩ _
 refine T2 (zq (Qt_lss rfl rfl) rfl (TX (zS ?_)))
 refine zC rfl (fun h9 => ?_) (fun h9 => ?_)
 ·
  have p9 := h9
  try simp only [dp] at p9
  have hk : k < ls.length := by omega
  refine zk (zx (zS (zB (T2 ?_))))
  refine Qmi rfl rfl (Qai rfl rfl (T4 (zq (zm _ rfl) rfl (Qms rfl rfl (Qmi rfl rfl ?_)))))
  refine zq (Qt_indexN rfl rfl (by omega) (by omega)) rfl (zq (Qt_val (Qt_loadRN 37 ls[k].list rfl (flat_slice _ 37 ToldV.list_len ls (k) hk) (ToldV.list_len _) (by decide)) (show Value.agg ls[k].list.toArray = Value.agg ls[k].cells from rfl)) rfl ?_)
  refine ze rfl (Ef_callF (argv := [_]) (caps := [_]) (pred_c (p := p) (last := last) (t := ls[k])) rfl rfl (fun x16 => ?_))
  refine TX (zC rfl (fun h16 => ?_) (fun h16 => ?_))
  ·
   have p16 := h16
   try simp only [dp] at p16
   refine T2 (Qmi rfl rfl (Qai rfl rfl (TX (zQ (zb (zr (X_loop_ret (zb (zr ?_)))))))))
   exact zX (k : Int) [_] Tryz.results111 ⟨rfl, trivial⟩ rfl (fun w hw => (SB w hw : St w0 H w).addPure (.inr ⟨k, rfl, hk, h16, hno⟩))
  have p16 := h16
  try simp only [dp] at p16
  refine zk (X_block (zx (zR ?_)))
  refine zq (Qt_add rfl rfl (by omega) (by omega)) rfl (Qmi rfl rfl (zz ?_))
  apply X_loop
  case ha => exact (by repeat (first | with_reducible exact agree_refl | refine agree_upd rfl ?_ | refine agree_mix rfl ?_ | refine agree_setAll rfl ?_))
  case hI => exact ⟨k + 1, rfl, rfl, by omega, fun j hj h => by rcases Nat.lt_or_ge j k with h1 | h1; exact hno j hj h1; obtain rfl : j = k := (by omega); exact h16⟩
  case hm => exact by show ls.length - (k + 1 : Int).toNat < ls.length - (k : Int).toNat; omega
  case hH => exact SB
 have p9 := h9
 try simp only [dp] at p9
 refine zY (zG (zW (zE (zx (T2 ?_)))))
 refine Qai rfl rfl (TX (zQ ?_))
 exact zX (-1) [_] Tryz.results111 ⟨rfl, trivial⟩ rfl (fun w hw => (SB w hw : St w0 H w).addPure (.inl ⟨rfl, fun v hv => by obtain ⟨j, hj, rfl⟩ := List.getElem_of_mem hv; exact hno j hj (by omega)⟩))
end
section
open Go.RowKit Go.Sx
set_option maxRecDepth 100000
set_option linter.unusedSimpArgs false
set_option linter.unusedVariables false
def keepL (last : Int) (ls : List ToldV) : List ToldV := ls.filter fun t => !delT last t
theorem keepL_all {last : Int} {ls : List ToldV} (h : ∀ t ∈ ls, delT last t = false) : keepL last ls = ls := List.filter_eq_self.2 fun t ht => by rw [h t ht]; rfl
theorem keepL_pre {last : Int} {ls : List ToldV} {k : Nat} (hk : k < ls.length) (h : delT last ls[k] = true) (hno : ∀ (j : Nat) (hj : j < ls.length), j < k → delT last ls[j] = false) : keepL last (ls.take (k + 1)) = ls.take k := by
 rw [List.take_succ_eq_append_getElem hk, keepL, List.filter_append]
 have e1 : (ls.take k).filter (fun t => !delT last t) = ls.take k := List.filter_eq_self.2 fun t ht => by
  obtain ⟨j, hj, rfl⟩ := List.getElem_of_mem ht
  rw [List.getElem_take, hno j (by simp at hj; omega) (by simp at hj; omega)]; rfl
 rw [e1]; simp [h]
theorem keepL_yes {last : Int} {ls : List ToldV} {k : Nat} (hk : k < ls.length) (h : delT last ls[k] = false) : keepL last (ls.take (k + 1)) = keepL last (ls.take k) ++ [ls[k]] := by
 rw [List.take_succ_eq_append_getElem hk, keepL, List.filter_append]; simp [h, keepL]
theorem keepL_no {last : Int} {ls : List ToldV} {k : Nat} (hk : k < ls.length) (h : delT last ls[k] = true) : keepL last (ls.take (k + 1)) = keepL last (ls.take k) := by
 rw [List.take_succ_eq_append_getElem hk, keepL, List.filter_append]; simp [h, keepL]
theorem cur_get {kl jk ls : List ToldV} {j : Nat} (h : kl.length + jk.length = j) (hj : j < ls.length) (hL : j < (kl ++ (jk ++ ls.drop j)).length) : (kl ++ (jk ++ ls.drop j))[j] = ls[j] := by
 rw [List.getElem_append_right (by omega), List.getElem_append_right (by omega), List.getElem_drop]
 congr 1; omega
theorem cur_slice {kl jk ls : List ToldV} {j : Nat} (h : kl.length + jk.length = j) (hj : j < ls.length) : (((kl ++ (jk ++ ls.drop j)).flatMap ToldV.list).drop (j * 37)).take 37 = ls[j].list := by
 have hL : j < (kl ++ (jk ++ ls.drop j)).length := by simp; omega
 rw [flat_slice _ 37 ToldV.list_len _ j hL, cur_get h hj hL]
set_option maxHeartbeats 1000000 in
theorem deleteT_c {w0 : World} {H : List SA} {p : Nat} {last : Int} [hp : Mem w0 H p (.cells #[.int .i64 last] 3 (0, 0))] {a : Option Addr} {ls : List ToldV} {c : Nat} (hn : ls.length ≤ 1000) :
 CT Tryz.prog w0 (row (.slice a ls.length c) 93 37 ((ls).flatMap ToldV.list) :: H) 66 [.slice a ls.length c, .func (.func 67) #[] #[.pointer (some ⟨p, 0, none⟩)]] (α := Unit) (fun _ => .slice a (keepL last ls).length c) (fun _ => row (.slice a (keepL last ls).length c) 93 37 ((keepL last ls).flatMap ToldV.list) :: H) := by
 refine CT_intro Tryz.func66 rfl Tryz.ntmps66 rfl ?_
 refine T2 (Qas rfl rfl (T4 (Qms rfl rfl (zq (zm _ rfl) rfl ?_))))
 refine ze rfl (zc (indexT_c (p := p) (last := last) (ls := ls) hn) rfl (fun x10 => ?_))
 refine TL_pure (fun h10 => ?_)
 refine Qai rfl rfl (TX (zS (T2 ?_)))
 refine Qmi rfl rfl (zq (Qt_eql rfl rfl) rfl (TX (zC rfl (fun h12 => ?_) (fun h12 => ?_))))
 ·
  have p12 := h12
  try simp only [dp] at p12
  have hnone : ∀ t ∈ ls, delT last t = false := by rcases h10 with ⟨-, h⟩ | ⟨k, hk, -⟩; exact h; exact absurd p12 (by omega)
  refine T2 (Qms rfl rfl (Qas rfl rfl (TX (zQ (zr ?_)))))
  rw [keepL_all hnone]
  exact zX () [_] Tryz.results66 ⟨rfl, trivial⟩ rfl SB
 have p12 := h12
 try simp only [dp] at p12
 obtain ⟨k, rfl, hk, hdk, hno⟩ : ∃ k : Nat, x10 = (k : Int) ∧ ∃ hk : k < ls.length, delT last ls[k] = true ∧ ∀ (j : Nat) (hj : j < ls.length), j < k → delT last ls[j] = false := by rcases h10 with ⟨h, -⟩ | h; exact absurd h p12; exact h
 refine zk (zx (zS (T2 ?_)))
 refine Qmi rfl rfl (zq (Qt_add rfl rfl (by omega) (by omega)) rfl (Qai rfl rfl (TX (zB ?_))))
 refine T_loop [5, 6, 7, 16, 17, 18, 19, 20, 21, 22, 23, 24, 25, 26, 27, 28, 29, 30, 31, 32, 33, 34, 35] [6, 5] (fun us H' => ∃ (j : Nat) (kl jk : List ToldV), us = [.int .i64 (j : Int), .int .i64 (kl.length : Int)] ∧ row (.slice a ls.length c) 93 37 ((kl ++ (jk ++ ls.drop j)).flatMap ToldV.list) :: H = H' ∧ j ≤ ls.length ∧ kl.length + jk.length = j ∧ 0 < jk.length ∧ kl = keepL last (ls.take j)) (fun us => match us with | .int _ i :: _ => ls.length - i.toNat | _ => 0) ⟨k + 1, ls.take k, [ls[k]], by rw [List.length_take, Nat.min_eq_left (by omega)]; rfl, rfl, by omega, by simp; omega, by simp, (keepL_pre hk hdk hno).symm⟩ (fun w hw => by
  rw [show ls.take k ++ ([ls[k]] ++ ls.drop (k + 1)) = ls from by rw [List.singleton_append, ← List.drop_eq_getElem_cons hk, List.take_append_drop]]
  exact SB w hw) ?_
 rintro τ0 _ _  ⟨j, kl, jk, rfl, rfl, hj0, hjl, hjp, hkl⟩ _
 refine zS (T2 ?_)
 refine Qmi rfl rfl (Qms rfl rfl (zq (zL rfl Tryz.underlying85) rfl (zq (Qt_lss rfl rfl) rfl (TX (zC rfl (fun h19 => ?_) (fun h19 => ?_))))))
 ·
  have p19 := h19
  try simp only [dp] at p19
  have hj : j < ls.length := by omega
  refine zk (zx (zS (zB (T2 ?_))))
  refine Qms rfl rfl (Qmi rfl rfl (zq (Qt_indexN rfl rfl (by omega) (by omega)) rfl (zq (Qt_val (Qt_loadRN 37 ls[j].list rfl (cur_slice hjl hj) (ToldV.list_len _) (by decide)) (show Value.agg ls[j].list.toArray = Value.agg ls[j].cells from rfl)) rfl ?_)))
  refine ze rfl (Ef_allocN (fun b7 => ?_))
  refine zN (zs rfl rfl (?_))
  refine T4 (zq (zm _ rfl) rfl (zq (zn rfl rfl) rfl ?_))
  refine ze rfl (Ef_callF (argv := [_]) (caps := [_]) (pred_c (p := p) (last := last) (t := ls[j])) rfl rfl (fun x28 => ?_))
  refine zq (Qt_not rfl) rfl (TX (zC rfl (fun h29 => ?_) (fun h29 => ?_)))
  ·
   have p29 := h29
   try simp only [dp] at p29
   obtain ⟨q, rest, rfl⟩ : ∃ q rest, jk = q :: rest := by cases jk with | nil => simp at hjp | cons q r => exact ⟨q, r, rfl⟩
   rw [List.cons_append]
   have hsl : kl.length * 37 + 37 ≤ ((kl ++ (q :: (rest ++ ls.drop j))).flatMap ToldV.list).length := by
    rw [flat_len _ 37 ToldV.list_len, List.length_append, List.length_cons]; omega
   refine T2 (Qms rfl rfl (Qmi rfl rfl (zq (zn rfl rfl) rfl (zq (Qt_indexN rfl rfl (by omega) (by omega)) rfl ?_))))
   refine zN (Ef_storeRN (e := 93) (sz := 37) (j := kl.length * 37) rfl rfl (by decide) hsl (by kernel_rfl) (?_))
   rw [del_store, show rest ++ ls.drop j = (rest ++ [ls[j]]) ++ ls.drop (j + 1) from by rw [List.drop_eq_getElem_cons hj]; simp]
   refine TX (zR ?_)
   refine Qmi rfl rfl (zq (Qt_add rfl rfl (by omega) (by omega)) rfl (Qai rfl rfl (zz (X_block (zx (zR ?_))))))
   refine Qmi rfl rfl (zq (Qt_add rfl rfl (by omega) (by omega)) rfl (Qai rfl rfl (zz ?_)))
   apply X_loop
   case ha => exact (by repeat (first | with_reducible exact agree_refl | refine agree_upd rfl ?_ | refine agree_mix rfl ?_ | refine agree_setAll rfl ?_))
   case hI => exact by first | exact ⟨j + 1, kl ++ [ls[j]], rest ++ [ls[j]], by rw [List.length_append]; rfl, rfl, by omega, by simp at hjl ⊢; omega, by simp, by rw [keepL_yes hj (by simpa using h29), ← hkl]⟩ | exact ⟨j + 1, kl, jk ++ [ls[j]], rfl, rfl, by omega, by simp; omega, by simp, by rw [keepL_no hj (by simpa using h29), ← hkl]⟩
   case hm => exact by show ls.length - ((j : Int) + 1).toNat < ls.length - (j : Int).toNat; omega
   case hH => exact SB
  have p29 := h29
  try simp only [dp] at p29
  rw [show jk ++ ls.drop j = (jk ++ [ls[j]]) ++ ls.drop (j + 1) from by rw [List.drop_eq_getElem_cons hj]; simp]
  refine zk (X_block (zx (zR ?_)))
  refine Qmi rfl rfl (zq (Qt_add rfl rfl (by omega) (by omega)) rfl (Qai rfl rfl (zz ?_)))
  apply X_loop
  case ha => exact (by repeat (first | with_reducible exact agree_refl | refine agree_upd rfl ?_ | refine agree_mix rfl ?_ | refine agree_setAll rfl ?_))
  case hI => exact by first | exact ⟨j + 1, kl ++ [ls[j]], rest ++ [ls[j]], by rw [List.length_append]; rfl, rfl, by omega, by simp at hjl ⊢; omega, by simp, by rw [keepL_yes hj (by simpa using h29), ← hkl]⟩ | exact ⟨j + 1, kl, jk ++ [ls[j]], rfl, rfl, by omega, by simp; omega, by simp, by rw [keepL_no hj (by simpa using h29), ← hkl]⟩
  case hm => exact by show ls.length - ((j : Int) + 1).toNat < ls.length - (j : Int).toNat; omega
  case hH => exact SB
 have p19 := h19
 try simp only [dp] at p19
 have hjn : j = ls.length := by omega
 subst hjn
 rw [List.drop_length, List.append_nil]
 rw [List.take_length] at hkl
 refine zY (zG (zW (zE (zx (T2 ?_)))))
 refine Qms rfl rfl (Qmi rfl rfl (zq (Qt_slice_l kl.length rfl rfl (by omega)) rfl ?_))
 refine zN (Ef_clearT (k := kl.length) rfl (by omega) (by rw [flat_len _ 37 ToldV.list_len, List.length_append, hjl]) (fun z hz => toldZ hz) (fun zs hzl => ?_))
 rw [del_clear]
 refine T4 (Qms rfl rfl (Qmi rfl rfl (zq (Qt_slice_h kl.length rfl rfl (fun w hw => by have := row_le hw; omega)) rfl (Qas rfl rfl (TX (zQ ?_))))))
 rw [← hkl]
 exact zX () [_] Tryz.results66 ⟨rfl, trivial⟩ rfl (fun w hw => St.rowCut (n := ls.length) (zs := zs) (SB w hw) (flat_len _ 37 ToldV.list_len kl) (by omega))
end
section
open Go.RowKit Go.Sx
set_option maxRecDepth 100000
set_option linter.unusedSimpArgs false
set_option linter.unusedVariables false
theorem Qt_fieldN {P : Program} {w0 : World} {σ : Env} {H : List SA} {d : Option Nat} {ty : TypeId} {pos : String} {aft : Array Edge} {g : Option (Nat × Bool)} {x : Operand} {cs sub : Array Value} {s f off n : Nat} {ft : TypeId} (h : ev σ x = .agg cs) [hf : TyF P s f off] (hft : (match P.underlying s with | some (.struct fs) => (fs[f]?).map (·.type) | _ => none) = some ft)
 [h1 : TyN P ft n] [hc : SubAt cs off n sub] : Qt P w0 H σ ⟨d, .field s x f, ty, pos, aft, g⟩ (.agg sub) := fun w _ => by
 have hb := hf.ok
 unfold fieldB at hb
 split at hb
 · rename_i fs hs
   split at hb
   · rename_i fd hfd
     simp only [Bool.and_eq_true, beq_iff_eq] at hb
     obtain ⟨e1, -⟩ := hb
     simp only [hs, hfd, Option.map_some, Option.some.injEq] at hft
     obtain ⟨dd, i, hd1, hd2, hi, hn⟩ := h1.spec
     subst e1
     subst hft
     subst hn
     simp only [execOp, h, Instr.field, Sem.run_bind, run_underlying hs, Result.andThen_ok, hfd, asAgg, Sem.run_pure, part, run_isAgg_of hd1, hd2, if_true, run_sizeOf_of hi, hc.ok]
   · cases hb
 · cases hb
def lastT (ls : List ToldV) : Int := (mxK cmpL ls (ls.length - 1)).b.last
def keptT (ls : List ToldV) : List ToldV := keepL (mxK cmpL ls (ls.length - 1)).b.last ls
def bestT (ls : List ToldV) : ToldV := mxK cmpR (keptT ls) ((keptT ls).length - 1)
/-- What follows from what members tell. -/
def choiceT (ls : List ToldV) : ChoiceV := if (keptT ls).length = 0 then ⟨lastT ls, false, zeroV 32, ⟨none, 0, []⟩⟩ else ⟨lastT ls, true, (bestT ls).b.hash, (bestT ls).b.batch⟩
theorem keptT_sub {ls : List ToldV} {t : ToldV} (h : t ∈ keptT ls) : t ∈ ls := (List.mem_filter.1 h).1
theorem keptT_le (ls : List ToldV) : (keptT ls).length ≤ ls.length := List.length_filter_le _ _
set_option maxHeartbeats 1000000 in
theorem follows_c {w0 : World} {H : List SA} {a : Option Addr} {ls : List ToldV} {c : Nat} (hn : ls.length ≤ 1000) (h0 : 0 < ls.length) (hg : ∀ t ∈ ls, GoodT t) :
 CT Tryz.prog w0 (row (.slice a ls.length c) 93 37 ((ls).flatMap ToldV.list) :: H) 31 [.slice a ls.length c] (α := Unit) (fun _ => .agg (choiceT ls).cells) (fun _ => H) := by
 refine CT_intro Tryz.func31 rfl Tryz.ntmps31 rfl ?_
 refine T2 ?_
 refine ze rfl (Ef_allocN (fun b2 => ?_))
 refine T4 (Qms rfl rfl ?_)
 refine ze rfl (zc (maxL_c (ls := ls) hn h0 hg) rfl (fun x7 => ?_))
 refine zq (Qt_fieldN (ft := 89) rfl rfl) rfl (zq (Qt_field1 (ft := 3) rfl rfl) rfl ?_)
 refine ze rfl (Ef_alloc1 (fun b3 => ?_))
 refine zN (Ef_store1 (.int .i64 _) rfl rfl (?_))
 refine T4 (Qms rfl rfl (zq (Qt_makeFunc (args := [.pointer _]) rfl) rfl ?_))
 refine TL_conv (H' := row (.slice a ls.length c) 93 37 ((ls).flatMap ToldV.list) :: blk b3 (.cells #[.int .i64 (mxK cmpL ls (ls.length - 1)).b.last] 3 (0, 0)) :: blk b2 (.cells ChoiceV.zero.cells 35 (0, 0)) :: H) (fun w hw => SB w hw) ?_
 refine ze rfl (zc (deleteT_c (p := b3) (last := (mxK cmpL ls (ls.length - 1)).b.last) (ls := ls) hn) rfl (fun x12 => ?_))
 rw [show keepL (mxK cmpL ls (ls.length - 1)).b.last ls = (keptT ls) from rfl]
 refine Qas rfl rfl (T4 (zq (zl rfl) rfl (zq (Qt_build [(0, (.int .i64 _))] rfl (by kernel_rfl)) rfl ?_)))
 refine ze rfl (Ef_allocN (fun b4 => ?_))
 refine zN (zs rfl rfl (?_))
 refine TX (zS (T2 ?_))
 refine Qms rfl rfl (zq (zL rfl Tryz.underlying85) rfl (zq (Qt_eql rfl rfl) rfl (TX (zC rfl (fun h17 => ?_) (fun h17 => ?_)))))
 ·
  have p17 := h17
  try simp only [dp] at p17
  refine T2 (zq (zn rfl rfl) rfl ?_)
  refine zN (zs rfl rfl (?_))
  refine TX (zQ (zr ?_))
  have e : choiceT ls = ⟨lastT ls, false, zeroV 32, ⟨none, 0, []⟩⟩ := if_pos (by omega)
  rw [e]
  exact zX () [_] Tryz.results31 ⟨⟨_, rfl, res_cellN rfl⟩, trivial⟩ rfl SB
 have p17 := h17
 try simp only [dp] at p17
 refine S4 (Qms rfl rfl ?_)
 refine ze rfl (zc (maxR_c (ls := (keptT ls)) (by have := keptT_le ls; omega) (by omega) (fun t ht => hg t (keptT_sub ht))) rfl (fun x20 => ?_))
 rw [show mxK cmpR (keptT ls) ((keptT ls).length - 1) = bestT ls from rfl]
 refine zq (Qt_fieldN (ft := 89) rfl rfl) rfl ?_
 refine ze rfl (Ef_allocN (fun b5 => ?_))
 refine zN (zs rfl rfl (?_))
 refine TX (zS ?_)
 refine T_draw (blk b5 (.cells (bestT ls).b.cells 89 (0, 0)) :: H) [(0, true), (1, true), (2, true), (3, true), (4, true), (5, false), (6, true), (7, false), (8, true), (9, false)] (by kernel_rfl) (by kernel_rfl) rfl (by kernel_rfl) SB (fun hns0 => ?_)
 refine zd hns0 rfl (zf 3 rfl rfl) rfl (zd hns0 rfl (zn rfl rfl) rfl (zd hns0 rfl (zf 35 rfl rfl) rfl (zd hns0 rfl (zl rfl) rfl (zd hns0 rfl (zf 1 rfl rfl) rfl ?_))))
 refine DL_n rfl (Ef_store1 (.bool _) rfl rfl (⟨SB, ?_⟩))
 refine zd hns0 rfl (zf 2 rfl rfl) rfl ?_
 refine DL_n rfl (zs rfl rfl (⟨SB, ?_⟩))
 refine zd hns0 rfl (zf 34 rfl rfl) rfl ?_
 refine DL_n rfl (Ef_store1 (.slice _ _ _) rfl rfl (⟨SB, ?_⟩))
 refine DL_nil (zx (T2 ?_))
 refine zq (zn rfl rfl) rfl ?_
 refine zN (zs rfl rfl (?_))
 refine TX (zQ ?_)
 have e : choiceT ls = ⟨lastT ls, true, (bestT ls).b.hash, (bestT ls).b.batch⟩ := if_neg (by omega)
 rw [e]
 exact zX () [_] Tryz.results31 ⟨⟨_, rfl, res_cellN rfl⟩, trivial⟩ rfl SB
end
section
open Go.RowKit Go.Sx
set_option maxRecDepth 100000
set_option linter.unusedSimpArgs false
set_option linter.unusedVariables false
theorem prs_small : ∀ (n : Nat) (l : List UInt8), (∀ x ∈ (prs n l).2.1, x.length ≤ l.length) ∧ (prs n l).2.1.length ≤ n
 | 0, l => by simp [prs]
 | n + 1, l => by
  have h1 := (rdText_bound l 65536).2
  have h2 := prs_small n (l.drop (rdText l 65536).2.2)
  rw [List.length_drop] at h2
  unfold prs
  split
  · simp
  · split
    · simp
    · refine ⟨fun x hx => ?_, by simp; exact h2.2⟩
      rcases List.mem_cons.1 hx with rfl | hx
      · exact h1
      · have := h2.1 x hx; omega
theorem partsR_small (l : List UInt8) : (∀ x ∈ (partsR l).2.1, x.length ≤ l.length) ∧ (partsR l).2.1.length ≤ 16 := by
 unfold partsR
 split
 · simp
 · rename_i hc
   have h2 := prs_small (rdCount l 16).2.1 (l.drop (rdCount l 16).2.2)
   have h3 := rdCount_ok (show (rdCount l 16).1 = 0 by omega)
   have h4 : ((rdCount l 16).2.1 : Int) ≤ 16 := by rw [h3.1]; exact h3.2.1
   rw [List.length_drop] at h2
   split
   · simp
   · exact ⟨fun x hx => by have := h2.1 x hx; omega, by have := h2.2; show (prs _ _).2.1.length ≤ 16; omega⟩
def Small2 (m : MsgD) (n : Nat) : Prop := m.body.length ≤ n ∧ (∀ x ∈ m.parts, x.length ≤ n) ∧ m.parts.length ≤ 16
theorem Small2.zero (n : Nat) : Small2 .zero n := ⟨Nat.zero_le _, fun x hx => (by cases hx), Nat.zero_le _⟩
theorem msgR_small2 (l : List UInt8) : Small2 (msgR l).2 l.length := by
 have hb := (rdText_bound (l.drop (8 + 32)) 65536).2
 have hp := partsR_small (l.drop (8 + 32 + (bodyR l).2.2))
 rw [List.length_drop] at hb hp
 unfold msgR
 repeat' split
 all_goals first | exact Small2.zero _ | exact ⟨by show (bodyR l).2.1.length ≤ _; unfold bodyR; omega, fun x hx => by have := hp.1 x hx; omega, hp.2⟩
theorem getM_small2 (l : List UInt8) : Small2 (getM l).2 l.length := by
 unfold getM
 repeat' split
 all_goals first | exact Small2.zero _ | exact msgR_small2 l
theorem openK_small2 (K : List (List UInt8)) (l : List UInt8) : Small2 (openK K l).2 l.length := by
 unfold openK
 repeat' split
 all_goals first | exact Small2.zero _ | (have h := getM_small2 (l.take (l.length - 32)); rw [List.length_take] at h; exact ⟨by have := h.1; show (getM (l.take (l.length - 32))).2.body.length ≤ _; omega, fun x hx => by have := h.2.1 x hx; omega, h.2.2⟩)
theorem openOfK_small2 (K : List (List UInt8)) (mk : Nat) (l : List UInt8) : Small2 (openOfK K mk l).2 l.length := by
 unfold openOfK
 split
 · exact Small2.zero _
 · exact openK_small2 K l
theorem validD_good {K : List (List UInt8)} {rs : List (Vector UInt8 32)} {num : Int} {mk : Nat} {first : Int} {m : MsgD} (hs : 0 ≤ m.slot ∧ m.slot ≤ 60) :
 (0 ≤ (validD K rs num mk first m).2.last ∧ (validD K rs num mk first m).2.last ≤ 60) ∧ (-1 ≤ (validD K rs num mk first m).2.reg ∧ (validD K rs num mk first m).2.reg ≤ 41) := by
 have hb := bndD_range K num mk m.slot (sha m.body) m.parts (startN m.reg)
 have hl := startN_le m.reg
 unfold validD
 repeat' split
 all_goals first | exact ⟨⟨by show (0 : Int) ≤ 0; decide, by show (0 : Int) ≤ 60; decide⟩, ⟨by show (-1 : Int) ≤ 0; decide, by show (0 : Int) ≤ 41; decide⟩⟩ | exact ⟨hs, ⟨by show (-1 : Int) ≤ 0; decide, by show (0 : Int) ≤ 41; decide⟩⟩ | exact ⟨hs, by show -1 ≤ bndM K num mk m; unfold bndM; omega, by show bndM K num mk m ≤ 41; unfold bndM; omega⟩
/-- The parts one by one: the error, who told what. -/
def chGo (K : List (List UInt8)) (rs : List (Vector UInt8 32)) (num : Int) (mk : Nat) (first reg : Int) : List (List UInt8) → Nat → List (Int × BindD) → Int × List (Int × BindD)
 | [], _, acc => (0, acc)
 | p :: ps, met, acc =>
  if (openOfK K mk p).1 ≠ 0 then ((openOfK K mk p).1, acc)
  else if (openOfK K mk p).2.kind ≠ 5 ∨ (openOfK K mk p).2.reg ≠ reg then (10, acc)
  else if met / 2 ^ (openOfK K mk p).2.frm.toNat % 2 ≠ 0 then (7, acc)
  else if (validD K rs num mk first (openOfK K mk p).2).1 ≠ 0 then ((validD K rs num mk first (openOfK K mk p).2).1, acc)
  else chGo K rs num mk first reg ps (met ||| 2 ^ (openOfK K mk p).2.frm.toNat) (acc ++ [((openOfK K mk p).2.frm, (validD K rs num mk first (openOfK K mk p).2).2)])
def chooseE (K : List (List UInt8)) (rs : List (Vector UInt8 32)) (num : Int) (mk : Nat) (first reg : Int) (ps : List (List UInt8)) : Int × List (Int × BindD) :=
 if enoughV num mk = 0 ∨ ps.length < enoughV num mk ∨ 16 < ps.length then (12, []) else chGo K rs num mk first reg ps 0 []
theorem chGo_acc {K : List (List UInt8)} {rs : List (Vector UInt8 32)} {num : Int} {mk : Nat} {first reg : Int} : ∀ {ps : List (List UInt8)} {met : Nat} {acc : List (Int × BindD)}, (chGo K rs num mk first reg ps met acc).1 = 0 → ∀ z ∈ acc, z ∈ (chGo K rs num mk first reg ps met acc).2
 | [], met, acc, _, z, hz => hz
 | p :: ps, met, acc, h, z, hz => by
  unfold chGo at h ⊢
  by_cases h1 : (openOfK K mk p).1 ≠ 0
  · rw [if_pos h1] at h; exact absurd h h1
  · rw [if_neg h1] at h ⊢
    by_cases h2 : (openOfK K mk p).2.kind ≠ 5 ∨ (openOfK K mk p).2.reg ≠ reg
    · rw [if_pos h2] at h; cases h
    · rw [if_neg h2] at h ⊢
      by_cases h3 : met / 2 ^ (openOfK K mk p).2.frm.toNat % 2 ≠ 0
      · rw [if_pos h3] at h; cases h
      · rw [if_neg h3] at h ⊢
        by_cases h4 : (validD K rs num mk first (openOfK K mk p).2).1 ≠ 0
        · rw [if_pos h4] at h; exact absurd h h4
        · rw [if_neg h4] at h ⊢
          exact chGo_acc h z (List.mem_append_left _ hz)
/-- Where all goes well, each part opens and is valid, and is among what is told. -/
theorem chGo_all {K : List (List UInt8)} {rs : List (Vector UInt8 32)} {num : Int} {mk : Nat} {first reg : Int} : ∀ {ps : List (List UInt8)} {met : Nat} {acc : List (Int × BindD)}, (chGo K rs num mk first reg ps met acc).1 = 0 →
 ∀ p ∈ ps, (openOfK K mk p).1 = 0 ∧ (validD K rs num mk first (openOfK K mk p).2).1 = 0 ∧ ((openOfK K mk p).2.frm, (validD K rs num mk first (openOfK K mk p).2).2) ∈ (chGo K rs num mk first reg ps met acc).2
 | [], met, acc, _, p, hp => by cases hp
 | q :: ps, met, acc, h, p, hp => by
  unfold chGo at h ⊢
  by_cases h1 : (openOfK K mk q).1 ≠ 0
  · rw [if_pos h1] at h; exact absurd h h1
  · rw [if_neg h1] at h ⊢
    by_cases h2 : (openOfK K mk q).2.kind ≠ 5 ∨ (openOfK K mk q).2.reg ≠ reg
    · rw [if_pos h2] at h; cases h
    · rw [if_neg h2] at h ⊢
      by_cases h3 : met / 2 ^ (openOfK K mk q).2.frm.toNat % 2 ≠ 0
      · rw [if_pos h3] at h; cases h
      · rw [if_neg h3] at h ⊢
        by_cases h4 : (validD K rs num mk first (openOfK K mk q).2).1 ≠ 0
        · rw [if_pos h4] at h; exact absurd h h4
        · rw [if_neg h4] at h ⊢
          rcases List.mem_cons.1 hp with rfl | hp
          · exact ⟨by omega, by omega, chGo_acc h _ (by simp)⟩
          · exact chGo_all h p hp
def absT (t : ToldV) : Int × BindD := (t.frm, t.b.abs)
end
section
open Go.RowKit Go.Sx
set_option maxRecDepth 100000
set_option linter.unusedSimpArgs false
set_option linter.unusedVariables false
attribute [local irreducible] openOfK validD enoughV
theorem chGo_at (K : List (List UInt8)) (rs : List (Vector UInt8 32)) (num : Int) (mk : Nat) (first reg : Int) (ps : List (List UInt8)) (met : Nat) (acc : List (Int × BindD)) (k : Nat) (hk : k < ps.length) : chGo K rs num mk first reg (ps.drop k) met acc =
 if (openOfK K mk ps[k]).1 ≠ 0 then ((openOfK K mk ps[k]).1, acc)
 else if (openOfK K mk ps[k]).2.kind ≠ 5 ∨ (openOfK K mk ps[k]).2.reg ≠ reg then (10, acc)
 else if met / 2 ^ (openOfK K mk ps[k]).2.frm.toNat % 2 ≠ 0 then (7, acc)
 else if (validD K rs num mk first (openOfK K mk ps[k]).2).1 ≠ 0 then ((validD K rs num mk first (openOfK K mk ps[k]).2).1, acc)
 else chGo K rs num mk first reg (ps.drop (k + 1)) (met ||| 2 ^ (openOfK K mk ps[k]).2.frm.toNat) (acc ++ [((openOfK K mk ps[k]).2.frm, (validD K rs num mk first (openOfK K mk ps[k]).2).2)]) := by
 rw [List.drop_eq_getElem_cons hk]; rfl
set_option maxHeartbeats 1000000 in
theorem choose_c {w0 : World} {H : List SA} {num : Int} {mk : Nat} (hmk : mk < 65536) {sa : Option Addr} {sc : Nat} {ls : List BS} [rk : RdC w0 H (.slice sa ls.length sc) 1 (ls.map BS.val)] [rke : RdE w0 H ls] (hkl : ∀ x ∈ ls, x.l.length ≤ 4294967000) {ra : Option Addr} {rq : Nat} {rs : List (Vector UInt8 32)} [hrr : RdC w0 H (.slice ra rs.length rq) 32 (rs.flatMap hlist)] (hrs : rs.length ≤ 1000) {a : Option Addr} {ps : List BS} {c : Nat} [hp : RdC w0 H (.slice a ps.length c) 1 (ps.map BS.val)] [hpe : RdE w0 H ps] (hps : ∀ x ∈ ps, x.l.length ≤ 4294960000) (hn : ps.length ≤ 1000) {first reg : Int} (hfi : -1000 ≤ first ∧ first ≤ 1000) :
 CT Tryz.prog w0 (H) 7 [.agg (KeysV.mk ⟨sa, sc, ls⟩ ⟨ra, rs.length, rq⟩).cells, .agg (ViewV.mk num (mk : Int)).cells, .int .i64 first, .int .i64 reg, .slice a ps.length c] (α := (ChoiceV × List ToldV) × List Nat) (fun y => .tuple #[.agg y.1.1.cells, .int .i64 (chooseE (ls.map BS.l) rs num mk first reg (ps.map BS.l)).1]) (fun y => pu (((chooseE (ls.map BS.l) rs num mk first reg (ps.map BS.l)).1 = 0 → y.1.2.map absT = (chooseE (ls.map BS.l) rs num mk first reg (ps.map BS.l)).2 ∧ y.1.1 = choiceT y.1.2) ∧ ((chooseE (ls.map BS.l) rs num mk first reg (ps.map BS.l)).1 ≠ 0 → y.1.1 = ChoiceV.zero)) :: dat y.2 ⟨(y.1.2).map (fun t => t.b.batch), [], []⟩ :: H) := by
 refine CT_intro Tryz.func7 rfl Tryz.ntmps7 rfl ?_
 refine T2 ?_
 refine ze rfl (Ef_boxN rfl (fun b5 => ?_))
 refine ze rfl (Ef_boxN rfl (fun b6 => ?_))
 refine ze rfl (Ef_allocN (fun b10 => ?_))
 refine Qai rfl rfl (TX (zS (T2 ?_)))
 refine zq (zn rfl rfl) rfl ?_
 refine ze rfl (zc (enough_v (num := num) hmk) rfl (fun x21 => ?_))
 refine Qai rfl rfl (T4 (Qmi rfl rfl (zq (Qt_eql rfl rfl) rfl (Qmb rfl rfl ?_))))
 refine TL_split 24 rfl (fun h24 => ?_) (fun h24 => ?_)
 ·
  have p24 := h24
  try simp only [dp] at p24
  refine zp rfl rfl h24 rfl (zp rfl rfl h24 rfl (zp rfl rfl h24 rfl (zp rfl rfl h24 rfl (zq (zT (.bool _) rfl h24 rfl) rfl (Qmb rfl rfl ?_)))))
  refine zp rfl rfl rfl rfl (zp rfl rfl rfl rfl (zp rfl rfl rfl rfl (zq (zT (.bool _) rfl rfl rfl) rfl (TX (T_cond_true rfl rfl ?_)))))
  refine T2 (zq (Qt_build [] rfl (by kernel_rfl)) rfl ?_)
  refine zN (zs rfl rfl (?_))
  refine Qai rfl rfl (TX (zQ (zr ?_)))
  have e : (chooseE (ls.map BS.l) rs num mk first reg (ps.map BS.l)).1 = 12 := by
   unfold chooseE; rw [if_pos (by rw [List.length_map]; simp_all <;> omega)]
  have e0 : (12 : Int) ≠ 0 := by first | decide | assumption | omega
  exact zX ((ChoiceV.zero, []), []) [_, _] Tryz.results7 ⟨⟨_, rfl, res_cellN rfl⟩, rfl, trivial⟩ (by rw [e]; rfl) (fun w hw => St.addPure ((SB w hw : St w0 H w).datNil) ⟨fun h => absurd (e.symm.trans h) e0, fun _ => rfl⟩)
 have p24 := h24
 try simp only [dp] at p24
 refine zt rfl rfl h24 (Qms rfl rfl (zt rfl rfl h24 (zq (zL rfl Tryz.underlying28) rfl (zt rfl rfl h24 (Qmi rfl rfl ?_)))))
 refine zt rfl rfl h24 (zq (Qt_lss rfl rfl) rfl (zq (zF (.bool _) rfl h24 rfl) rfl (Qmb rfl rfl ?_)))
 refine TL_split 30 rfl (fun h30 => ?_) (fun h30 => ?_)
 ·
  have p30 := h30
  try simp only [dp] at p30
  refine zp rfl rfl h30 rfl (zp rfl rfl h30 rfl (zp rfl rfl h30 rfl (zq (zT (.bool _) rfl h30 rfl) rfl (TX (T_cond_true rfl rfl ?_)))))
  refine T2 (zq (Qt_build [] rfl (by kernel_rfl)) rfl ?_)
  refine zN (zs rfl rfl (?_))
  refine Qai rfl rfl (TX (zQ (zr ?_)))
  have e : (chooseE (ls.map BS.l) rs num mk first reg (ps.map BS.l)).1 = 12 := by
   unfold chooseE; rw [if_pos (by rw [List.length_map]; simp_all <;> omega)]
  have e0 : (12 : Int) ≠ 0 := by first | decide | assumption | omega
  exact zX ((ChoiceV.zero, []), []) [_, _] Tryz.results7 ⟨⟨_, rfl, res_cellN rfl⟩, rfl, trivial⟩ (by rw [e]; rfl) (fun w hw => St.addPure ((SB w hw : St w0 H w).datNil) ⟨fun h => absurd (e.symm.trans h) e0, fun _ => rfl⟩)
 have p30 := h30
 try simp only [dp] at p30
 refine zt rfl rfl h30 (Qms rfl rfl (zt rfl rfl h30 (zq (zL rfl Tryz.underlying28) rfl (zt rfl rfl h30 (zq (Qt_gtr rfl rfl) rfl ?_)))))
 refine zq (zF (.bool _) rfl h30 rfl) rfl (TX (zC rfl (fun h34 => ?_) (fun h34 => ?_)))
 ·
  have p34 := h34
  try simp only [dp] at p34
  refine T2 (zq (Qt_build [] rfl (by kernel_rfl)) rfl ?_)
  refine zN (zs rfl rfl (?_))
  refine Qai rfl rfl (TX (zQ (zr ?_)))
  have e : (chooseE (ls.map BS.l) rs num mk first reg (ps.map BS.l)).1 = 12 := by
   unfold chooseE; rw [if_pos (by rw [List.length_map]; simp_all <;> omega)]
  have e0 : (12 : Int) ≠ 0 := by first | decide | assumption | omega
  exact zX ((ChoiceV.zero, []), []) [_, _] Tryz.results7 ⟨⟨_, rfl, res_cellN rfl⟩, rfl, trivial⟩ (by rw [e]; rfl) (fun w hw => St.addPure ((SB w hw : St w0 H w).datNil) ⟨fun h => absurd (e.symm.trans h) e0, fun _ => rfl⟩)
 have p34 := h34
 try simp only [dp] at p34
 have hce : chooseE (ls.map BS.l) rs num mk first reg (ps.map BS.l) = chGo (ls.map BS.l) rs num mk first reg (ps.map BS.l) 0 [] := by
  unfold chooseE; rw [if_neg (by rw [List.length_map]; simp_all <;> omega)]
 have h16 : ps.length ≤ 16 ∧ 0 < ps.length := by simp_all; omega
 refine S4 (zq (za (.int .u16 _) rfl) rfl (T4 (Qas rfl rfl (TX (zS (T2 ?_))))))
 refine Qms rfl rfl (zq (zL rfl Tryz.underlying28) rfl (Qmi rfl rfl (TX (zB ?_))))
 refine T_loop [11, 13, 14, 16, 17, 18, 19, 38, 39, 40, 41, 42, 43, 44, 45, 46, 47, 48, 49, 50, 51, 52, 53, 54, 55, 56, 57, 58, 59, 60, 61, 62, 63, 64, 65, 66, 67, 68, 69, 70, 71, 72, 73, 74, 75, 76, 77, 78, 79, 80, 81, 82, 83, 84, 85, 86, 87, 88, 89, 90, 91, 92, 93, 94, 95, 96, 97] [38, 13, 14] (fun us H' => ∃ (k : Nat) (met : Nat) (aa : Option Addr) (cc : Nat) (ts : List ToldV) (fp : List Nat), us = [.int .i64 (k : Int), .int .u16 (met : Int), .slice aa ts.length cc] ∧ row (.slice aa (ts).length cc) 93 37 ((ts).flatMap ToldV.list) :: dat fp ⟨(ts).map (fun t => t.b.batch), [], []⟩ :: blk b5 (.cells (KeysV.mk ⟨sa, sc, ls⟩ ⟨ra, rs.length, rq⟩).cells 40 (0, 0)) :: blk b6 (.cells (ViewV.mk num (mk : Int)).cells 24 (0, 0)) :: blk b10 (.cells ChoiceV.zero.cells 35 (0, 0)) :: H = H' ∧ k ≤ ps.length ∧ (chGo (ls.map BS.l) rs num mk first reg (ps.map BS.l) 0 [] = chGo (ls.map BS.l) rs num mk first reg ((ps.map BS.l).drop k) met (ts.map absT)) ∧ (met < 65536) ∧ (ts.length = k) ∧ (∀ t ∈ ts, GoodT t)) (fun us => match us with | .int _ i :: _ => ps.length - i.toNat | _ => 0) ⟨0, 0, none, 0, [], [], rfl, rfl, by omega, rfl, by decide, rfl, fun t ht => by cases ht⟩ (fun w hw => by
  have h0 : St w0 (blk b5 (.cells (KeysV.mk ⟨sa, sc, ls⟩ ⟨ra, rs.length, rq⟩).cells 40 (0, 0)) :: blk b6 (.cells (ViewV.mk num (mk : Int)).cells 24 (0, 0)) :: blk b10 (.cells ChoiceV.zero.cells 35 (0, 0)) :: H) w := SB w hw
  exact (h0.datNil).addNil 93 37) ?_
 rintro τ0 _ _  ⟨k, met, aa, cc, ts, fp, rfl, rfl, hk0, hi, hmet, hll, hg⟩ _
 refine T2 (zq (Qt_lss rfl rfl) rfl (TX (zS ?_)))
 refine zC rfl (fun h39 => ?_) (fun h39 => ?_)
 ·
  have p39 := h39
  try simp only [dp] at p39
  have hk : k < ps.length := by omega
  have hst := chGo_at (ls.map BS.l) rs num mk first reg (ps.map BS.l) met (ts.map absT) k (by simpa using hk)
  have hgk : ((ps.map BS.l)[k]'(by simpa using hk)) = ps[k].l := by simp
  rw [hgk] at hst
  refine zk (zx (zS (zB (T2 ?_))))
  refine zq (Qt_indexR rfl rfl (by omega) (by simp; omega)) rfl (zq (Qt_loadR (.slice _ _ _) rfl (vals_get _ _ hk)) rfl (Qas rfl rfl (T4 (zq (zn rfl rfl) rfl (zq (zn rfl rfl) rfl ?_)))))
  refine Qms rfl rfl ?_
  have : RdB w0 H (.slice ps[k].a ps[k].l.length ps[k].c) ps[k].l := hpe.get (List.getElem_mem hk)
  refine ze rfl (zc (openOf_c (sa := sa) (sc := sc) (ls := ls) (rt := ⟨ra, rs.length, rq⟩) (num := num) hmk hkl (l := ps[k].l) (hps _ (List.getElem_mem hk))) rfl (fun x46 => ?_))
  refine TL_pure (fun h46 => ?_)
  have hkd : x46.1.kind = (openOfK (ls.map BS.l) mk ps[k].l).2.kind := congrArg MsgD.kind h46
  have hrg : x46.1.reg = (openOfK (ls.map BS.l) mk ps[k].l).2.reg := congrArg MsgD.reg h46
  have hfr : x46.1.frm = (openOfK (ls.map BS.l) mk ps[k].l).2.frm := congrArg MsgD.frm h46
  have hs2 := openOfK_small2 (ls.map BS.l) mk ps[k].l
  have hpk := hps _ (List.getElem_mem hk)
  rw [← h46] at hs2
  have hmbl : x46.1.body.l.length ≤ 4294960000 := Nat.le_trans hs2.1 hpk
  have hmps : ∀ x ∈ x46.1.parts.ls, x.l.length ≤ 4294960000 := fun x hx => Nat.le_trans (hs2.2.1 x.l (List.mem_map.2 ⟨x, hx, rfl⟩)) hpk
  have hmpn : x46.1.parts.ls.length ≤ 16 := by have := hs2.2.2; rwa [show x46.1.abs.parts = x46.1.parts.ls.map BS.l from rfl, List.length_map] at this
  refine zq (zm (.tuple _) rfl) rfl (zq (Qt_extract rfl) rfl (zq (Qt_extract rfl) rfl ?_))
  refine ze rfl (Ef_allocN (fun b17 => ?_))
  refine zN (zs rfl rfl (?_))
  refine Qai rfl rfl (TX (zS (zB (T2 ?_))))
  refine Qmi rfl rfl (zq (Qt_neq rfl rfl) rfl (Qab rfl rfl (TX (zC rfl (fun h49 => ?_) (fun h49 => ?_)))))
  ·
   have p49 := h49
   try simp only [dp] at p49
   rw [if_pos p49] at hst
   refine T2 (zq (Qt_build [] rfl (by kernel_rfl)) rfl (Qmi rfl rfl ?_))
   refine zN (zs rfl rfl (?_))
   refine Qai rfl rfl (TX (zQ (zb (zr (zb (zr (X_loop_ret (zb (zr ?_)))))))))
   have e : (chooseE (ls.map BS.l) rs num mk first reg (ps.map BS.l)).1 = (openOfK (ls.map BS.l) mk ps[k].l).1 := by
    rw [hce, hi, hst]
   have e0 : ((openOfK (ls.map BS.l) mk ps[k].l).1 : Int) ≠ 0 := by first | decide | assumption | omega
   exact zX ((ChoiceV.zero, []), []) [_, _] Tryz.results7 ⟨⟨_, rfl, res_cellN rfl⟩, rfl, trivial⟩ (by rw [e]; rfl) (fun w hw => St.addPure ((SB w hw : St w0 H w).datNil) ⟨fun h => absurd (e.symm.trans h) e0, fun _ => rfl⟩)
  have p49 := h49
  try simp only [dp] at p49
  rw [if_neg (by omega)] at hst
  have hfm := (formedM_iff _).1 (opn_ok (K := (ls.map BS.l)) (mk := mk) (l := ps[k].l) (by omega)).1
  rw [show opn (ls.map BS.l) mk ps[k].l = (openOfK (ls.map BS.l) mk ps[k].l).2 from rfl, ← h46] at hfm
  have hmsl : 0 ≤ x46.1.slot ∧ x46.1.slot ≤ 60 := hfm.2.2.2.2.2.2.2.2
  have hfra : 0 ≤ x46.1.frm ∧ x46.1.frm ≤ 15 := ⟨hfm.2.2.1, hfm.2.2.2.1⟩
  obtain ⟨f, hfe⟩ := Int.eq_ofNat_of_zero_le hfra.1
  have hf16 : f < 16 := by omega
  have h2f : 2 ^ f < 65536 := Nat.pow_lt_pow_right (by decide) hf16
  have hff : (openOfK (ls.map BS.l) mk ps[k].l).2.frm.toNat = f := by rw [← hfr, hfe]; rfl
  rw [hff, ← hfr, ← hkd, ← hrg, ← h46] at hst
  refine T2 (zq (zf 0 rfl rfl) rfl (zq (zl rfl) rfl (zq (Qt_neq rfl rfl) rfl (Qmb rfl rfl ?_))))
  refine TL_split 58 rfl (fun h58 => ?_) (fun h58 => ?_)
  ·
   have p58 := h58
   try simp only [dp] at p58
   refine zp rfl rfl h58 rfl (zp rfl rfl h58 rfl (zp rfl rfl h58 rfl (zp rfl rfl h58 rfl (zq (zT (.bool _) rfl h58 rfl) rfl (Qab rfl rfl ?_)))))
   refine TX (T_cond_true rfl rfl (T2 (zq (Qt_build [] rfl (by kernel_rfl)) rfl ?_)))
   refine zN (zs rfl rfl (?_))
   refine Qai rfl rfl (TX (zQ (zb (zr (zb (zr (X_loop_ret (zb (zr ?_)))))))))
   have e : (chooseE (ls.map BS.l) rs num mk first reg (ps.map BS.l)).1 = 10 := by
    rw [hce, hi, hst, if_pos (by first | (left; assumption) | (right; assumption) | (simp_all; done) | (simp_all; omega))]
   have e0 : (10 : Int) ≠ 0 := by first | decide | assumption | omega
   exact zX ((ChoiceV.zero, []), []) [_, _] Tryz.results7 ⟨⟨_, rfl, res_cellN rfl⟩, rfl, trivial⟩ (by rw [e]; rfl) (fun w hw => St.addPure ((SB w hw : St w0 H w).datNil) ⟨fun h => absurd (e.symm.trans h) e0, fun _ => rfl⟩)
  have p58 := h58
  try simp only [dp] at p58
  refine zt rfl rfl h58 (zq (zf 3 rfl rfl) rfl (zt rfl rfl h58 (zq (zl rfl) rfl (zt rfl rfl h58 (Qmi rfl rfl ?_)))))
  refine zt rfl rfl h58 (zq (Qt_neq rfl rfl) rfl (zq (zF (.bool _) rfl h58 rfl) rfl (Qab rfl rfl (TX (zC rfl (fun h54 => ?_) (fun h54 => ?_))))))
  ·
   have p54 := h54
   try simp only [dp] at p54
   refine T2 (zq (Qt_build [] rfl (by kernel_rfl)) rfl ?_)
   refine zN (zs rfl rfl (?_))
   refine Qai rfl rfl (TX (zQ (zb (zr (zb (zr (X_loop_ret (zb (zr ?_)))))))))
   have e : (chooseE (ls.map BS.l) rs num mk first reg (ps.map BS.l)).1 = 10 := by
    rw [hce, hi, hst, if_pos (by first | (left; assumption) | (right; assumption) | (simp_all; done) | (simp_all; omega))]
   have e0 : (10 : Int) ≠ 0 := by first | decide | assumption | omega
   exact zX ((ChoiceV.zero, []), []) [_, _] Tryz.results7 ⟨⟨_, rfl, res_cellN rfl⟩, rfl, trivial⟩ (by rw [e]; rfl) (fun w hw => St.addPure ((SB w hw : St w0 H w).datNil) ⟨fun h => absurd (e.symm.trans h) e0, fun _ => rfl⟩)
  have p54 := h54
  try simp only [dp] at p54
  rw [if_neg (by rintro (h | h) <;> simp_all)] at hst
  refine T2 (zq (zm (.int .u16 _) rfl) rfl (zq (zf 1 rfl rfl) rfl (zq (zl rfl) rfl (zq (Qt_shrN f rfl (show Value.int .i64 x46.1.frm = Value.int .i64 (f : Int) from by rw [hfe]) (by show f ≤ 16; omega)) rfl (zq (Qt_andN (b := 1) rfl rfl rfl (by have := Nat.div_le_self met (2 ^ f); show _ < 2 ^ 16; omega) (by decide)) rfl ?_)))))
  rw [Nat.and_one_is_mod]
  refine zq (Qt_neq rfl rfl) rfl (Qab rfl rfl (TX (zC rfl (fun h65 => ?_) (fun h65 => ?_))))
  ·
   have p65 := h65
   try simp only [dp] at p65
   rw [if_pos (by omega)] at hst
   refine T2 (zq (Qt_build [] rfl (by kernel_rfl)) rfl ?_)
   refine zN (zs rfl rfl (?_))
   refine Qai rfl rfl (TX (zQ (zb (zr (zb (zr (X_loop_ret (zb (zr ?_)))))))))
   have e : (chooseE (ls.map BS.l) rs num mk first reg (ps.map BS.l)).1 = 7 := by
    rw [hce, hi, hst]
   have e0 : (7 : Int) ≠ 0 := by first | decide | assumption | omega
   exact zX ((ChoiceV.zero, []), []) [_, _] Tryz.results7 ⟨⟨_, rfl, res_cellN rfl⟩, rfl, trivial⟩ (by rw [e]; rfl) (fun w hw => St.addPure ((SB w hw : St w0 H w).datNil) ⟨fun h => absurd (e.symm.trans h) e0, fun _ => rfl⟩)
  have p65 := h65
  try simp only [dp] at p65
  rw [if_neg (by omega)] at hst
  refine zk (X_block (zx (T2 ?_)))
  refine zq (zn rfl rfl) rfl (zq (zn rfl rfl) rfl (Qmi rfl rfl (zq (zn rfl rfl) rfl ?_)))
  refine ze rfl (zc (valid_c (num := num) hmk (sa := sa) (sc := sc) (ls := ls) hkl (ra := ra) (rq := rq) (rs := rs) hrs (m := x46.1) hmsl hmps hmpn hmbl (first := first) hfi) rfl (fun x78 => ?_))
  refine TL_pure (fun h78 => ?_)
  have hvg := validD_good (K := (ls.map BS.l)) (rs := rs) (num := num) (mk := mk) (first := first) (m := x46.1.abs) hmsl
  rw [← h78] at hvg
  refine zq (zm (.tuple _) rfl) rfl (zq (Qt_extract rfl) rfl (zq (Qt_extract rfl) rfl ?_))
  refine ze rfl (Ef_allocN (fun b19 => ?_))
  refine zN (zs rfl rfl (?_))
  refine Qai rfl rfl (TX (zS (T2 ?_)))
  refine Qmi rfl rfl (zq (Qt_neq rfl rfl) rfl (TX (zC rfl (fun h82 => ?_) (fun h82 => ?_))))
  ·
   have p82 := h82
   try simp only [dp] at p82
   rw [if_pos p82] at hst
   refine T2 (zq (Qt_build [] rfl (by kernel_rfl)) rfl (Qmi rfl rfl ?_))
   refine zN (zs rfl rfl (?_))
   refine Qai rfl rfl (TX (zQ (zr (zb (zr (X_loop_ret (zb (zr ?_))))))))
   have e : (chooseE (ls.map BS.l) rs num mk first reg (ps.map BS.l)).1 = (validD (ls.map BS.l) rs num mk first x46.1.abs).1 := by
    rw [hce, hi, hst]
   have e0 : ((validD (ls.map BS.l) rs num mk first x46.1.abs).1 : Int) ≠ 0 := by first | decide | assumption | omega
   exact zX ((ChoiceV.zero, []), []) [_, _] Tryz.results7 ⟨⟨_, rfl, res_cellN rfl⟩, rfl, trivial⟩ (by rw [e]; rfl) (fun w hw => St.addPure ((SB w hw : St w0 H w).datNil) ⟨fun h => absurd (e.symm.trans h) e0, fun _ => rfl⟩)
  have p82 := h82
  try simp only [dp] at p82
  rw [if_neg (by omega)] at hst
  refine S4 (zq (zm (.int .u16 _) rfl) rfl (zq (zf 1 rfl rfl) rfl (zq (zl rfl) rfl (zq (Qt_shlN (k := .u16) (a := 1) (m := f) rfl (show Value.int .i64 x46.1.frm = Value.int .i64 (f : Int) from by rw [hfe]) (by show f ≤ 16; omega) (by show 1 * 2 ^ f < 2 ^ 16; omega) rfl) rfl ?_))))
  rw [Nat.one_mul]
  refine zq (Qt_orN rfl rfl rfl (by show _ < 2 ^ 16; omega) (by show _ < 2 ^ 16; omega)) rfl (zq (za (.int .u16 _) rfl) rfl (TX (zR ?_)))
  refine Qms rfl rfl (zq (zf 1 rfl rfl) rfl (zq (zl rfl) rfl (zq (zn rfl rfl) rfl (zq (Qt_build [(0, (.int .i64 _)), (1, (.agg _))] rfl (by kernel_rfl)) rfl ?_))))
  refine ze rfl (Ef_sliceN (m := ([(⟨x46.1.frm, x78⟩ : ToldV)] : List ToldV).length) [.agg ((⟨x46.1.frm, x78⟩ : ToldV)).cells] (([(⟨x46.1.frm, x78⟩ : ToldV)] : List ToldV).flatMap ToldV.list) rfl rfl rfl rfl (by simp [Value.cells, ToldV.size]) rfl rfl (fun a95 c95 => ?_))
  refine ze rfl (Ef_appendS ToldV.list (sv := .slice _ _ _) (xv := .slice _ _ _) (xs := ts) (ys := [(⟨x46.1.frm, x78⟩ : ToldV)]) ToldV.list_len ToldV.list_one rfl rfl (by simp; omega) rfl rfl (fun a96 c96 => ?_))
  refine Qas rfl rfl (zz (X_block (zx (zR ?_))))
  refine zq (Qt_add rfl rfl (by omega) (by omega)) rfl (Qmi rfl rfl (zz ?_))
  apply X_loop
  case ha => exact (by repeat (first | with_reducible exact agree_refl | refine agree_upd rfl ?_ | refine agree_mix rfl ?_ | refine agree_setAll rfl ?_))
  case hI => exact ⟨k + 1, (met ||| 2 ^ f), a96, c96, ts ++ [(⟨x46.1.frm, x78⟩ : ToldV)], (fp ++ (rowFp (.slice x78.batch.a x78.batch.l.length x78.batch.c))), rfl, rfl, by omega, by rw [hi, hst, List.map_append, ← h78]; rfl, Nat.or_lt_two_pow (n := 16) hmet h2f, by simp [hll], fun t ht => by rcases List.mem_append.1 ht with h | h; exact hg t h; rw [List.mem_singleton.1 h]; exact ⟨hvg.1, hvg.2, hfra⟩⟩
  case hm => exact by show ps.length - (k + 1 : Int).toNat < ps.length - (k : Int).toNat; omega
  case hH => exact (fun w hw => by
   have h1 : St w0 (row (.slice x78.batch.a x78.batch.l.length x78.batch.c) 5 1 (bytesV x78.batch.l) :: dat fp ⟨(ts).map (fun t => t.b.batch), [], []⟩ :: row (.slice a96 (ts ++ [(⟨x46.1.frm, x78⟩ : ToldV)]).length c96) 93 37 ((ts ++ [(⟨x46.1.frm, x78⟩ : ToldV)]).flatMap ToldV.list) :: blk b5 (.cells (KeysV.mk ⟨sa, sc, ls⟩ ⟨ra, rs.length, rq⟩).cells 40 (0, 0)) :: blk b6 (.cells (ViewV.mk num (mk : Int)).cells 24 (0, 0)) :: blk b10 (.cells ChoiceV.zero.cells 35 (0, 0)) :: H) w := SB w hw
   have h3 : St w0 (dat fp ⟨(ts).map (fun t => t.b.batch), [], []⟩ :: dat (rowFp (.slice x78.batch.a x78.batch.l.length x78.batch.c)) ⟨[x78.batch], [], []⟩ :: row (.slice a96 (ts ++ [(⟨x46.1.frm, x78⟩ : ToldV)]).length c96) 93 37 ((ts ++ [(⟨x46.1.frm, x78⟩ : ToldV)]).flatMap ToldV.list) :: blk b5 (.cells (KeysV.mk ⟨sa, sc, ls⟩ ⟨ra, rs.length, rq⟩).cells 40 (0, 0)) :: blk b6 (.cells (ViewV.mk num (mk : Int)).cells 24 (0, 0)) :: blk b10 (.cells ChoiceV.zero.cells 35 (0, 0)) :: H) w := Subs.st inferInstance w h1.datB
   have h4 : St w0 (dat (fp ++ (rowFp (.slice x78.batch.a x78.batch.l.length x78.batch.c))) ⟨(ts ++ [(⟨x46.1.frm, x78⟩ : ToldV)]).map (fun t => t.b.batch), [], []⟩ :: row (.slice a96 (ts ++ [(⟨x46.1.frm, x78⟩ : ToldV)]).length c96) 93 37 ((ts ++ [(⟨x46.1.frm, x78⟩ : ToldV)]).flatMap ToldV.list) :: blk b5 (.cells (KeysV.mk ⟨sa, sc, ls⟩ ⟨ra, rs.length, rq⟩).cells 40 (0, 0)) :: blk b6 (.cells (ViewV.mk num (mk : Int)).cells 24 (0, 0)) :: blk b10 (.cells ChoiceV.zero.cells 35 (0, 0)) :: H) w := by
    rw [List.map_append]; exact h3.datAdd
   exact Subs.st inferInstance w h4)
 have p39 := h39
 try simp only [dp] at p39
 have hkn : k = ps.length := by omega
 rw [hkn, List.drop_of_length_le (by simp)] at hi
 have hi2 : chGo (ls.map BS.l) rs num mk first reg (ps.map BS.l) 0 [] = (0, ts.map absT) := hi
 refine zY (zG (zW (zE (zx (T2 ?_)))))
 refine Qms rfl rfl (TL_frontA (row (.slice aa (ts).length cc) 93 37 ((ts).flatMap ToldV.list)) ?_)
 refine ze rfl (zc (follows_c (ls := ts) (by omega) (by omega) hg) rfl (fun x99 => ?_))
 refine zN (zs rfl rfl (?_))
 refine Qai rfl rfl (TX (zQ ?_))
 have e : (chooseE (ls.map BS.l) rs num mk first reg (ps.map BS.l)) = (0, ts.map absT) := hce.trans hi2
 exact zX ((choiceT ts, ts), fp) [_, _] Tryz.results7 ⟨⟨_, rfl, res_cellN rfl⟩, rfl, trivial⟩ (by rw [e]; rfl) (fun w hw => (SB w hw : St w0 (dat fp ⟨(ts).map (fun t => t.b.batch), [], []⟩ :: H) w).addPure ⟨fun _ => ⟨by rw [e], rfl⟩, fun h => absurd (by rw [e]) h⟩)
end
section
open Go.RowKit Go.Sx
set_option maxRecDepth 100000
set_option linter.unusedSimpArgs false
set_option linter.unusedVariables false
def absT' (t : ToldV) : Int × BindD := (t.frm, t.b.abs)
theorem mxK_fold (f : ToldV → ToldV → Int) (x : ToldV) (xs : List ToldV) : ∀ k, k ≤ xs.length → mxK f (x :: xs) k = (xs.take k).foldl (fun b y => if 0 < f y b then y else b) x
 | 0, _ => rfl
 | k + 1, h => by
  have e : (x :: xs).getD (k + 1) ToldV.zero = xs[k]'(by omega) := getD_at (ls := x :: xs) (by simp; omega)
  rw [mxK_succ, mxK_fold f x xs k (by omega), e, List.take_succ_eq_append_getElem (by omega), List.foldl_append]
  rfl
/-- The greatest last slot, as the reference finds it. -/
def lastR : List (Int × BindD) → Int → Int
 | [], m => m
 | x :: xs, m => lastR xs (if m < x.2.last then x.2.last else m)
theorem lastR_fold : ∀ (xs : List ToldV) (x : ToldV), (xs.foldl (fun b y => if 0 < cmpL y b then y else b) x).b.last = lastR (xs.map absT') x.b.last
 | [], x => rfl
 | y :: xs, x => by
  rw [List.foldl_cons, lastR_fold xs, List.map_cons, lastR]
  congr 1
  show (if 0 < y.b.last - x.b.last then y else x).b.last = if x.b.last < y.b.last then y.b.last else x.b.last
  by_cases h : x.b.last < y.b.last
  · rw [if_pos (by omega), if_pos h]
  · rw [if_neg (by omega), if_neg h]
/-- The best batch, as the reference finds it. -/
def bestR (last : Int) : List (Int × BindD) → Option (Int × BindD) → Option (Int × BindD)
 | [], b => b
 | x :: xs, b => if x.2.last ≠ last ∨ x.2.has = false then bestR last xs b else
  match b with
  | none => bestR last xs (some x)
  | some y => if y.2.reg < x.2.reg ∨ (x.2.reg = y.2.reg ∧ x.1 < y.1) then bestR last xs (some x) else bestR last xs (some y)
def stepB (b : Option ToldV) (y : ToldV) : Option ToldV := match b with | none => some y | some z => some (if 0 < cmpR y z then y else z)
theorem cmpR_pos (x z : ToldV) : 0 < cmpR x z ↔ z.b.reg < x.b.reg ∨ (x.b.reg = z.b.reg ∧ x.frm < z.frm) := by
 unfold cmpR; split <;> omega
theorem delT_iff (last : Int) (t : ToldV) : delT last t = true ↔ (t.b.last ≠ last ∨ t.b.has = false) := by
 unfold delT; simp
theorem bestR_fold (last : Int) : ∀ (ls : List ToldV) (b : Option ToldV), bestR last (ls.map absT') (b.map absT') = ((keepL last ls).foldl stepB b).map absT'
 | [], b => rfl
 | x :: ls, b => by
  rw [List.map_cons, bestR.eq_def]
  show (if x.b.last ≠ last ∨ x.b.has = false then bestR last (ls.map absT') (b.map absT') else _) = _
  by_cases h : delT last x = true
  · rw [if_pos ((delT_iff last x).1 h), bestR_fold last ls b, show keepL last (x :: ls) = keepL last ls from by unfold keepL; rw [List.filter_cons_of_neg (by simp [h])]]
  · rw [if_neg (fun hh => h ((delT_iff last x).2 hh)), show keepL last (x :: ls) = x :: keepL last ls from by unfold keepL; rw [List.filter_cons_of_pos (by simpa using h)], List.foldl_cons]
    cases b with
    | none => exact bestR_fold last ls (some x)
    | some z =>
     show (if z.b.reg < x.b.reg ∨ (x.b.reg = z.b.reg ∧ x.frm < z.frm) then bestR last (ls.map absT') (some (absT' x)) else bestR last (ls.map absT') (some (absT' z))) = _
     by_cases hc : 0 < cmpR x z
     · rw [if_pos ((cmpR_pos x z).1 hc)]
       have := bestR_fold last ls (some x)
       rw [show stepB (some z) x = some x from congrArg some (if_pos hc)]
       exact this
     · rw [if_neg (fun hh => hc ((cmpR_pos x z).2 hh))]
       have := bestR_fold last ls (some z)
       rw [show stepB (some z) x = some z from congrArg some (if_neg hc)]
       exact this
theorem stepB_some : ∀ (ys : List ToldV) (y : ToldV), ys.foldl stepB (some y) = some (ys.foldl (fun b y => if 0 < cmpR y b then y else b) y)
 | [], y => rfl
 | x :: ys, y => by
  rw [List.foldl_cons, List.foldl_cons]
  exact stepB_some ys _
def lastRL (L : List (Int × BindD)) : Int := match L with | [] => 0 | x :: xs => lastR xs x.2.last
/-- What the reference chooses: the last slot, the best. -/
def bestRL (L : List (Int × BindD)) : Option (Int × BindD) := bestR (lastRL L) L none
theorem lastT_R {ls : List ToldV} (h : 0 < ls.length) : lastT ls = lastRL (ls.map absT') := by
 cases ls with
 | nil => simp at h
 | cons x xs =>
  unfold lastT
  rw [show (x :: xs).length - 1 = xs.length from by simp, mxK_fold cmpL x xs xs.length (Nat.le_refl _), List.take_length, lastR_fold]
  rfl
/-- Both find the same. -/
theorem choice_R {ls : List ToldV} (h : 0 < ls.length) : (bestRL (ls.map absT') = none ∧ choiceT ls = ⟨lastRL (ls.map absT'), false, zeroV 32, ⟨none, 0, []⟩⟩) ∨
 ∃ t ∈ ls, bestRL (ls.map absT') = some (absT' t) ∧ choiceT ls = ⟨lastRL (ls.map absT'), true, t.b.hash, t.b.batch⟩ := by
 have hl := lastT_R h
 have hb : bestRL (ls.map absT') = ((keptT ls).foldl stepB none).map absT' := by
  unfold bestRL
  rw [← hl]
  exact bestR_fold (lastT ls) ls none
 have hk : ∀ t ∈ keptT ls, t ∈ ls := fun t ht => keptT_sub ht
 unfold choiceT bestT
 rw [← hl]
 cases hkl : keptT ls with
 | nil =>
  left
  rw [hkl] at hb
  exact ⟨hb, if_pos rfl⟩
 | cons y ys =>
  right
  rw [hkl, List.foldl_cons] at hb
  have h2 : (y :: ys).length - 1 = ys.length := by simp
  rw [h2, mxK_fold cmpR y ys ys.length (Nat.le_refl _), List.take_length]
  refine ⟨ys.foldl (fun b y => if 0 < cmpR y b then y else b) y, ?_, ?_, if_neg (by simp)⟩
  · apply hk
    have hm := mxK_mem cmpR (y :: ys) ys.length (by simp)
    rw [mxK_fold cmpR y ys ys.length (Nat.le_refl _), List.take_length] at hm
    rw [hkl]
    exact hm
  · rw [hb]
    exact congrArg (Option.map absT') (stepB_some ys y)
end
end Go.Proofs.YtnijomppbgdmnaaGreat
