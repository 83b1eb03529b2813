/- Walks: the references that read worlds. -/
import Derived.Test.YtnijomppbgdmnaaGreatSgP
import Derived.Test.YtnijomppbgdmnaaGreatYaRP
set_option linter.unusedSimpArgs false
set_option linter.unusedVariables false
namespace Go.Proofs.YtnijomppbgdmnaaGreat
section
open Go.RowKit Go.Sx
set_option maxRecDepth 100000
set_option maxHeartbeats 1000000
theorem fx1 {l : List UInt8} {q : Nat} (h : ¬ (rdFixed (l.drop q) 1).1 ≠ 0) : q < l.length ∧ (rdFixed (l.drop q) 1).2.1 = (l.getD q 0).toNat := by
 rcases Nat.lt_or_ge q l.length with hs | hs
 · exact ⟨hs, by rw [rdFixed_one hs]⟩
 · rw [rdFixed_sh1 (by omega)] at h; exact absurd (show ((1 : Int), 0, 0).1 ≠ 0 by decide) h
theorem fx1e {l : List UInt8} {q : Nat} (h : (rdFixed (l.drop q) 1).1 ≠ 0) : l.length ≤ q ∧ (rdFixed (l.drop q) 1).1 = 1 := by
 rcases Nat.lt_or_ge q l.length with hs | hs
 · rw [rdFixed_one hs] at h; exact absurd rfl h
 · exact ⟨hs, by rw [rdFixed_sh1 (by omega)]⟩
structure KGotV where
 c : Vector CellV 16
 e : Int
def KGotV.list (v : KGotV) : List Value := flatV CellV.list v.c ++ [.int .i64 v.e]
def KGotV.cells (v : KGotV) : Array Value := v.list.toArray
theorem KGotV.list_len (v : KGotV) : v.list.length = 33 := by simp only [KGotV.list, List.length_append, flatV_length _ 2 CellV.list_len, List.length_singleton]
theorem KGotV.list_one (v : KGotV) : v.list.all Value.oneCell' = true := by
 simp only [KGotV.list, List.all_append, flatV_one _ CellV.list_one]; rfl
instance kga {v : KGotV} : Cells v.cells 33 := Cells.list v.list_len v.list_one
theorem KGotV.size (v : KGotV) : v.cells.size = 33 := by simp [KGotV.cells, KGotV.list_len]
instance kgb {v : KGotV} : SubAt v.cells 0 33 v.cells := ⟨by have h := v.size; apply Array.ext <;> simp [h]⟩
instance kgc {v u : KGotV} : Put v.cells 0 (.agg u.cells) u.cells := ⟨by have := put_mid [] v.list [] (v := .agg u.cells) (o := 0) (n := 33) rfl v.list_len u.size; simpa [KGotV.cells, Value.cells] using this, by simp [Value.cells, KGotV.size]⟩
instance kgd {v : KGotV} : SubAt v.cells 0 32 (flatV CellV.list v.c).toArray := ⟨by have := sub_mid ([] : List Value) (flatV CellV.list v.c) [.int .i64 v.e] (o := 0) (n := 32) rfl (flatV_length _ 2 CellV.list_len v.c); simpa [KGotV.cells, KGotV.list] using this⟩
instance kge {v : KGotV} : CellAt v.cells 32 (.int .i64 v.e) := ⟨by
 have h := flatV_length _ 2 CellV.list_len v.c
 simp [KGotV.cells, KGotV.list, List.getElem?_append, h]⟩
@[reducible] def KGotV.zero : KGotV := ⟨Z16, 0⟩
instance kgf : TyZ Tryz.prog 175 (.agg KGotV.zero.cells) := ⟨by kernel_rfl⟩
theorem put_kelem (v : KGotV) (i : Nat) (hi : i < 16) (u : CellV) : Put v.cells (i * 2) (.agg u.cells) ({ v with c := v.c.set i u } : KGotV).cells := by
 have := Put.mid ((flatV CellV.list v.c).take (i * 2)) (CellV.list v.c[i]) ((flatV CellV.list v.c).drop ((i + 1) * 2) ++ [.int .i64 v.e]) (cs := v.cells) (o := i * 2) (n := 2) (v := .agg u.cells)
  (by rw [KGotV.cells, KGotV.list]; (conv => lhs; rw [flat_split CellV.list 2 CellV.list_len v.c i hi]); simp only [List.append_assoc]) (flat_pre CellV.list 2 CellV.list_len v.c i hi) (CellV.list_len _) u.size
 rw [show ({ v with c := v.c.set i u } : KGotV).cells = (flatV CellV.list (v.c.set i u) ++ [Value.int .i64 v.e]).toArray from rfl, flat_set CellV.list 2 CellV.list_len v.c i hi u]
 simpa [Value.cells, CellV.cells] using this
instance kgh {v : KGotV} {u : Int} : Put v.cells 32 (.int .i64 u) ({ v with e := u } : KGotV).cells := by
 have := Put.mid (flatV CellV.list v.c) [.int .i64 v.e] ([] : List Value) (cs := v.cells) (o := 32) (n := 1) (v := .int .i64 u) (by simp [KGotV.cells, KGotV.list]) (flatV_length _ 2 CellV.list_len v.c) rfl rfl
 simpa [KGotV.cells, KGotV.list, Value.cells] using this
theorem getD_u8 {l : List UInt8} {i : Nat} (h : i < l.length) : l.getD i 0 = l[i] := by rw [List.getD_eq_getElem?_getD, List.getElem?_eq_getElem h]; rfl
instance gdp0 {v : WGotV} {u : Int} : Put v.cells 0 (.int .i64 u) { v with w := { v.w with slot := u } }.cells := by
 have := Put.mid ([] : List Value) v.w.p0 (v.w.p1 ++ (v.w.view.list ++ (v.w.was.list ++ (v.w.p4 ++ (v.w.p5 ++ [.int .i64 v.e]))))) (cs := v.cells) (o := 0) (n := 1) (v := .int .i64 u) (by simp only [WGotV.cells, WGotV.list, WorldV.list, List.append_assoc, List.nil_append]) rfl rfl rfl
 simpa [WGotV.cells, WGotV.list, WorldV.list, Value.cells] using this
instance gdp1 {v : WGotV} {u : Int} : Put v.cells 1 (.int .i64 u) { v with w := { v.w with first := u } }.cells := by
 have := Put.mid v.w.p0 v.w.p1 (v.w.view.list ++ (v.w.was.list ++ (v.w.p4 ++ (v.w.p5 ++ [.int .i64 v.e])))) (cs := v.cells) (o := 1) (n := 1) (v := .int .i64 u) (by simp only [WGotV.cells, WGotV.list, WorldV.list, List.append_assoc]) rfl rfl rfl
 simpa [WGotV.cells, WGotV.list, WorldV.list, Value.cells] using this
instance gdp2 {v : WGotV} {u : ViewV} : Put v.cells 2 (.agg u.cells) { v with w := { v.w with view := u } }.cells := by
 have := Put.mid (v.w.p0 ++ v.w.p1) v.w.view.list (v.w.was.list ++ (v.w.p4 ++ (v.w.p5 ++ [.int .i64 v.e]))) (cs := v.cells) (o := 2) (n := 2) (v := .agg u.cells) (by simp only [WGotV.cells, WGotV.list, WorldV.list, List.append_assoc]) rfl v.w.view.list_len u.size
 simpa [WGotV.cells, WGotV.list, WorldV.list, Value.cells, ViewV.cells] using this
instance gdp4 {v : WGotV} {u : ViewV} : Put v.cells 4 (.agg u.cells) { v with w := { v.w with was := u } }.cells := by
 have := Put.mid (v.w.p0 ++ (v.w.p1 ++ v.w.view.list)) v.w.was.list (v.w.p4 ++ (v.w.p5 ++ [.int .i64 v.e])) (cs := v.cells) (o := 4) (n := 2) (v := .agg u.cells) (by simp only [WGotV.cells, WGotV.list, WorldV.list, List.append_assoc]) (by simp [ViewV.list_len]) v.w.was.list_len u.size
 simpa [WGotV.cells, WGotV.list, WorldV.list, Value.cells, ViewV.cells] using this
instance gdp6 {v : WGotV} {u : Vector CellV 16} : Put v.cells 6 (.agg (flatV CellV.list u).toArray) { v with w := { v.w with cs := u } }.cells := by
 have := Put.mid (v.w.p0 ++ (v.w.p1 ++ (v.w.view.list ++ v.w.was.list))) v.w.p4 (v.w.p5 ++ [.int .i64 v.e]) (cs := v.cells) (o := 6) (n := 32) (v := .agg (flatV CellV.list u).toArray) (by simp only [WGotV.cells, WGotV.list, WorldV.list, List.append_assoc]) (by simp [ViewV.list_len]) v.w.l4 (by simp [Value.cells, flatV_length _ 2 CellV.list_len])
 simpa [WGotV.cells, WGotV.list, WorldV.list, Value.cells] using this
theorem put_glast (v : WGotV) (k : Nat) (hk : k < 6) (u : ReplyV) : Put v.cells (38 + k * 5) (.agg u.cells) ({ v with w := { v.w with last := v.w.last.set k u } } : WGotV).cells := by
 have := Put.mid (v.w.p0 ++ (v.w.p1 ++ (v.w.view.list ++ (v.w.was.list ++ (v.w.p4 ++ v.w.p5.take (k * 5)))))) v.w.last[k].list (v.w.p5.drop ((k + 1) * 5) ++ [.int .i64 v.e]) (cs := v.cells) (o := 38 + k * 5) (n := 5) (v := .agg u.cells)
  (by rw [WGotV.cells, WGotV.list, WorldV.list]; (conv => lhs; rw [show v.w.p5 = _ from flat_split ReplyV.list 5 ReplyV.list_len v.w.last k hk]); simp only [List.append_assoc])
  (by simp only [List.length_append, ViewV.list_len, v.w.l4, flat_pre ReplyV.list 5 ReplyV.list_len v.w.last k hk, List.length_singleton]; omega) (ReplyV.list_len _) u.size
 simpa [WGotV.cells, WGotV.list, WorldV.list, Value.cells, ReplyV.cells, flat_set ReplyV.list 5 ReplyV.list_len v.w.last k hk u] using this
theorem wNext_0i {l : List UInt8} {i : Nat} {s : WSt} (hi : i = 0) (h0 : s.e = 0) (h : (rdText (l.drop s.q) 1000).1 = 0) : wNext l i s = ⟨(viewG (rdText (l.drop s.q) 1000).2.1).1, s.q + (rdText (l.drop s.q) 1000).2.2, { s.w with view := (viewG (rdText (l.drop s.q) 1000).2.1).2 }⟩ := by subst hi; exact wNext_0 h0 h
theorem wNext_1i {l : List UInt8} {i : Nat} {s : WSt} (hi : i = 1) (h0 : s.e = 0) (h : (rdText (l.drop s.q) 1000).1 = 0) : wNext l i s = ⟨(viewG (rdText (l.drop s.q) 1000).2.1).1, s.q + (rdText (l.drop s.q) 1000).2.2, { s.w with was := (viewG (rdText (l.drop s.q) 1000).2.1).2 }⟩ := by subst hi; exact wNext_1 h0 h
theorem wNext_2i {l : List UInt8} {i : Nat} {s : WSt} (hi : i = 2) (h0 : s.e = 0) (h : (rdText (l.drop s.q) 1000).1 = 0) : wNext l i s = ⟨(kvG (rdText (l.drop s.q) 1000).2.1).1, s.q + (rdText (l.drop s.q) 1000).2.2, { s.w with cs := (kvG (rdText (l.drop s.q) 1000).2.1).2 }⟩ := by subst hi; exact wNext_2 h0 h
theorem wNext_3i {l : List UInt8} {i : Nat} {s : WSt} (h3 : 3 ≤ i) (h9 : i < 9) (h0 : s.e = 0) (h : (rdText (l.drop s.q) 1000).1 = 0) : wNext l i s = ⟨(replyG (rdText (l.drop s.q) 1000).2.1).1, s.q + (rdText (l.drop s.q) 1000).2.2, { s.w with last := s.w.last.set (i - 3) (replyG (rdText (l.drop s.q) 1000).2.1).2 (by omega) }⟩ := by
 obtain ⟨k, rfl⟩ : ∃ k, i = 3 + k := ⟨i - 3, by omega⟩
 rw [wNext_3 (show k < 6 by omega) h0 h]
 simp only [Nat.add_sub_cancel_left]
theorem rGetReply_c {w0 : World} {H : List SA} {a : Option Addr} {l : List UInt8} {c : Nat} [hr : RdB w0 H (.slice a l.length c) l] (hl : l.length ≤ 4294967296) :
 CT Tryz.prog w0 (H) 87 [.slice a l.length c] (α := Unit) (fun _ => .tuple #[.agg (replyG l).2.cells, .int .i64 (replyG l).1]) (fun _ => H) := by
 refine CT_intro Tryz.func87 rfl Tryz.ntmps87 rfl (T2 (ze rfl (Ef_allocN (fun b2 => ?_))))
 refine Qai rfl rfl (TX (zS (T2 (Qms rfl rfl (zy (zL rfl Tryz.underlying33) (zy (Qt_lss rfl rfl) (TX (zC rfl (fun h7 => ?_) (fun h7 => ?_)))))))))
 ·
  have p7 := cL h7
  refine T2 (zy (zw [] rfl) (zN (zs rfl rfl (Qai rfl rfl (TX (zQ (zr ?_)))))))
  have e : replyG l = (1, .zero) := by unfold replyG; exact if_pos (by omega)
  rw [e]
  exact zX () [_, _] Tryz.results87 ⟨⟨_, rfl, res_cellN rfl⟩, rfl, trivial⟩ rfl SB
 have p7 := cL h7
 have h4 : 4 ≤ l.length := by omega
 have q0 : 0 < l.length := by omega
 have q1 : 1 < l.length := by omega
 have q2 : 2 < l.length := by omega
 have q3 : 3 < l.length := by omega
 have hb0 := (l[0]'q0).toNat_lt
 have hb1 := (l[1]'q1).toNat_lt
 have hb2 := (l[2]'q2).toNat_lt
 have hb3 := (l[3]'q3).toNat_lt
 refine S4 (Qms rfl rfl (ze rfl (zc (rReadPacked_c (k := 4) (by omega) hl) rfl (fun x10 => ?_))))
 obtain ⟨P, hP⟩ : ∃ P, P = rdPacked (l.drop 4) := ⟨_, rfl⟩
 have hP2 := (rdPacked_bound (l.drop 4)).2.1
 have hP3 := (rdPacked_bound (l.drop 4)).2.2
 rw [List.length_drop] at hP2
 rw [← hP] at hP2 hP3 ⊢
 refine ze rfl (Ef_allocN (fun b4 => ?_))
 refine zN (zs rfl rfl (TX (zS (T2 (zy (zf 3 rfl rfl) (zy (zl rfl) (zy (Qt_neq rfl rfl) (TX (zC rfl (fun h13 => ?_) (fun h13 => ?_))))))))))
 ·
  have p13 := cL h13
  refine zS (zD (blk b4 (.cells (GotV.mk (P.2.1 : Int) ⟨none, 0, []⟩ (P.2.2 : Int) P.1).cells 123 (0, 0)) :: H) [(0, true), (1, true), (2, true), (3, false), (4, true)] SB (fun hns0 => ?_))
  refine zd hns0 rfl (zw [] rfl) rfl (zd hns0 rfl (zf 3 rfl rfl) rfl (zd hns0 rfl (zl rfl) rfl (DL_n rfl (zs rfl rfl (⟨SB, (zd hns0 rfl (za (.int .i64 _) rfl) rfl (DL_nil (zx (zQ (zr ?_)))))⟩)))))
  have e : replyG l = (P.1, .zero) := by unfold replyG; rw [if_neg (by omega), ← hP, if_pos p13]
  rw [e]
  exact zX () [_, _] Tryz.results87 ⟨⟨_, rfl, res_cellN rfl⟩, rfl, trivial⟩ rfl SB
 have p13 := cL h13
 refine zk (zx (zS (T2 (Qms rfl rfl (zy (Qt_indexR rfl rfl (by omega) (by simp; omega)) (zy (Qt_loadR (.int .u8 ((l[3]'q3).toNat : Int)) rfl (bytes_get _ _ q3)) (zy (Qt_gtr rfl rfl) (Qmb rfl rfl (TL_split 21 rfl (fun h21 => ?_) (fun h21 => ?_))))))))))
 ·
  have p21 := cL h21
  refine zp rfl rfl h21 rfl (zp rfl rfl h21 rfl (zp rfl rfl h21 rfl (zp rfl rfl h21 rfl (zp rfl rfl h21 rfl (zp rfl rfl h21 rfl (zy (zT (.bool _) rfl h21 rfl) (TX (T_cond_true rfl rfl (T2 (zy (zw [] rfl) (zN (zs rfl rfl (Qai rfl rfl (TX (zQ (zr ?_))))))))))))))))
  have e : replyG l = (2, .zero) := by unfold replyG; rw [if_neg (by omega), ← hP, if_neg (by omega), getD_u8 q3, if_pos (by omega)]
  rw [e]
  exact zX () [_, _] Tryz.results87 ⟨⟨_, rfl, res_cellN rfl⟩, rfl, trivial⟩ rfl SB
 have p21 := cL h21
 refine zt rfl rfl h21 (zy (zf 2 rfl rfl) (zt rfl rfl h21 (zy (zl rfl) (zt rfl rfl h21 (zy (zj rfl rfl) (zt rfl rfl h21 (Qms rfl rfl (zt rfl rfl h21 (zy (zL rfl Tryz.underlying33) (zt rfl rfl h21 (zy (Qt_lss rfl rfl) (zy (zF (.bool _) rfl h21 rfl) (TX (zC rfl (fun h28 => ?_) (fun h28 => ?_)))))))))))))))
 ·
  have p28 := cL h28
  refine T2 (zy (zw [] rfl) (zN (zs rfl rfl (Qai rfl rfl (TX (zQ (zr ?_)))))))
  have e : replyG l = (2, .zero) := by unfold replyG; rw [if_neg (by omega), ← hP, if_neg (by omega), getD_u8 q3, if_pos (by omega)]
  rw [e]
  exact zX () [_, _] Tryz.results87 ⟨⟨_, rfl, res_cellN rfl⟩, rfl, trivial⟩ rfl SB
 have p28 := cL h28
 refine zk (zx (zS (zD (blk b4 (.cells (GotV.mk (P.2.1 : Int) ⟨none, 0, []⟩ (P.2.2 : Int) P.1).cells 123 (0, 0)) :: H) [(0, true), (1, true), (2, true), (3, true), (4, true), (5, true), (6, true), (7, true), (8, true), (9, true), (10, true), (11, true), (12, true), (13, true), (14, true), (15, true), (16, true), (17, true), (18, false), (19, true), (20, true), (21, false), (22, true)] SB (fun hns1 => ?_))))
 refine zd hns1 rfl (zm (.slice _ _ _) rfl) rfl (zd hns1 rfl (Qt_indexR rfl rfl (by omega) (by simp; omega)) rfl (zd hns1 rfl (Qt_loadR (.int .u8 ((l[0]'q0).toNat : Int)) rfl (bytes_get _ _ q0)) rfl (zd hns1 rfl (Qt_conv_i64 rfl rfl Tryz.underlying3 (by omega) (by omega)) rfl (zd hns1 rfl (zm (.slice _ _ _) rfl) rfl (zd hns1 rfl (Qt_indexR rfl rfl (by omega) (by simp; omega)) rfl (zd hns1 rfl (Qt_loadR (.int .u8 ((l[1]'q1).toNat : Int)) rfl (bytes_get _ _ q1)) rfl (zd hns1 rfl (Qt_conv_i64 rfl rfl Tryz.underlying3 (by omega) (by omega)) rfl (zd hns1 rfl (zm (.slice _ _ _) rfl) rfl (zd hns1 rfl (Qt_indexR rfl rfl (by omega) (by simp; omega)) rfl (zd hns1 rfl (Qt_loadR (.int .u8 ((l[2]'q2).toNat : Int)) rfl (bytes_get _ _ q2)) rfl (zd hns1 rfl (Qt_conv_i64 rfl rfl Tryz.underlying3 (by omega) (by omega)) rfl ?_)))))))))))
 refine zd hns1 rfl (zm (.slice _ _ _) rfl) rfl (zd hns1 rfl (Qt_indexR rfl rfl (by omega) (by simp; omega)) rfl (zd hns1 rfl (Qt_loadR (.int .u8 ((l[3]'q3).toNat : Int)) rfl (bytes_get _ _ q3)) rfl (zd hns1 rfl (Qt_eql rfl rfl) rfl (zd hns1 rfl (zf 0 rfl rfl) rfl (zd hns1 rfl (zl rfl) rfl (DL_e rfl rfl (zc (rUnfold_c hP3) rfl (fun x48 => ⟨SB, ?_⟩))))))))
 refine zd hns1 rfl (zw [(0, (.bool _)), (1, (.int .i64 _))] rfl) rfl (zd hns1 rfl (zw [(0, (.int .i64 _)), (1, (.int .i64 _)), (2, (.int .i64 _)), (3, (.agg _))] rfl) rfl (DL_n rfl (zs rfl rfl (⟨SB, (zd hns1 rfl (za (.int .i64 _) rfl) rfl (DL_nil (zx (zQ ?_))))⟩))))
 have e : replyG l = ((0 : Int), ReplyV.mk (l[0]'q0).toNat (l[1]'q1).toNat (l[2]'q2).toNat (ResV.mk (decide (((l[3]'q3).toNat : Int) = 1)) (unfoldN P.2.1))) := by unfold replyG; rw [if_neg (by omega), ← hP, if_neg (by omega), getD_u8 q0, getD_u8 q1, getD_u8 q2, getD_u8 q3, if_neg (by omega)]
 rw [e]
 exact zX () [_, _] Tryz.results87 ⟨⟨_, rfl, res_cellN rfl⟩, rfl, trivial⟩ rfl SB
attribute [local irreducible] rdFixed rdText rdPacked rdCount kvGo replyG wSt wNext kvG evG viewG worldG
theorem rViewsGet_c {w0 : World} {H : List SA} {a : Option Addr} {l : List UInt8} {c : Nat} [hr : RdB w0 H (.slice a l.length c) l] (hl : l.length ≤ 4294967296) :
 CT Tryz.prog w0 (H) 85 [.slice a l.length c] (α := Unit) (fun _ => .tuple #[.agg (viewG l).2.cells, .int .i64 (viewG l).1]) (fun _ => H) := by
 refine CT_intro Tryz.func85 rfl Tryz.ntmps85 rfl (T2 (ze rfl (Ef_allocN (fun b2 => ?_))))
 refine Qai rfl rfl (TX (zS (T2 (Qms rfl rfl (zy (zL rfl Tryz.underlying33) (zy (Qt_lss rfl rfl) (TX (zC rfl (fun h7 => ?_) (fun h7 => ?_)))))))))
 ·
  have p7 := cL h7
  refine T2 (zy (zw [] rfl) (zN (zs rfl rfl (Qai rfl rfl (TX (zQ (zr ?_)))))))
  have e : viewG l = (1, .zero) := by unfold viewG; exact if_pos (by omega)
  rw [e]
  exact zX () [_, _] Tryz.results85 ⟨⟨_, rfl, res_cellN rfl⟩, rfl, trivial⟩ rfl SB
 have p7 := cL h7
 refine S4 (Qms rfl rfl (ze rfl (zc (rReadFixed_c (k := 0) (by omega) hl (n := 2)) rfl (fun x10 => ?_))))
 rw [List.drop_zero]
 have hf1 := rdFixed_two l
 refine zy (Qt_field1 (ft := 121) rfl rfl) (zy (Qt_conv_i64 rfl rfl Tryz.underlying3 (by omega) (by omega)) (Qms rfl rfl (ze rfl (zc (rReadFixed_c (k := 2) (by omega) hl (n := 2)) rfl (fun x14 => ?_)))))
 have hf2 := rdFixed_two (l.drop 2)
 refine zy (Qt_field1 (ft := 121) rfl rfl) (zy (Qt_conv rfl rfl Tryz.underlying22) ?_)
 rw [wrap_nat .u16 rfl (by show _ < 2 ^ 16; omega)]
 refine zy (zw [(0, (.int .i64 _)), (1, (.int .u16 _))] rfl) (ze rfl (Ef_allocN (fun b4 => ?_)))
 refine zN (zs rfl rfl (TX (zS (T2 (Qms rfl rfl (zy (zL rfl Tryz.underlying33) (zy (Qt_gtr rfl rfl) (Qmb rfl rfl (TL_split 21 rfl (fun h21 => ?_) (fun h21 => ?_))))))))))
 ·
  have p21 := cL h21
  refine zp rfl rfl h21 rfl (zp rfl rfl h21 rfl (zp rfl rfl h21 rfl (zy (zT (.bool _) rfl h21 rfl) (TX (T_cond_true rfl rfl (T2 (zy (zw [] rfl) (zN (zs rfl rfl (Qai rfl rfl (TX (zQ (zr ?_)))))))))))))
  have e : viewG l = (2, .zero) := by unfold viewG; rw [if_neg (by omega), if_pos (by first | exact .inl (by omega) | exact .inr (by simpa using h25))]
  rw [e]
  exact zX () [_, _] Tryz.results85 ⟨⟨_, rfl, res_cellN rfl⟩, rfl, trivial⟩ rfl SB
 have p21 := cL h21
 refine zt rfl rfl h21 (zy (zn rfl rfl) (zt rfl rfl h21 (ze rfl (zc (rRight_c (num := ((rdFixed l 2).2.1 : Int)) (mk := (rdFixed (l.drop 2) 2).2.1) (by omega)) rfl (fun x23 => ?_)))))
 refine zt rfl rfl h21 (zy (Qt_not rfl) (zy (zF (.bool _) rfl h21 rfl) (TX (zC rfl (fun h25 => ?_) (fun h25 => ?_)))))
 ·
  have p25 := cL h25
  refine T2 (zy (zw [] rfl) (zN (zs rfl rfl (Qai rfl rfl (TX (zQ (zr ?_)))))))
  have e : viewG l = (2, .zero) := by unfold viewG; rw [if_neg (by omega), if_pos (by first | exact .inl (by omega) | exact .inr (by simpa using h25))]
  rw [e]
  exact zX () [_, _] Tryz.results85 ⟨⟨_, rfl, res_cellN rfl⟩, rfl, trivial⟩ rfl SB
 have p25 := cL h25
 refine S4 (zy (zn rfl rfl) (zN (zs rfl rfl (Qai rfl rfl (TX (zQ ?_))))))
 have e : viewG l = (0, ⟨((rdFixed l 2).2.1 : Int), ((rdFixed (l.drop 2) 2).2.1 : Int)⟩) := by unfold viewG; rw [if_neg (by omega), if_neg (by rintro (h | h); omega; rw [h] at h25; cases h25)]
 rw [e]
 exact zX () [_, _] Tryz.results85 ⟨⟨_, rfl, res_cellN rfl⟩, rfl, trivial⟩ rfl SB
theorem rKvGet_c {w0 : World} {H : List SA} {a : Option Addr} {l : List UInt8} {c : Nat} [hr : RdB w0 H (.slice a l.length c) l] (hl : l.length ≤ 4294967296) :
 CT Tryz.prog w0 (H) 86 [.slice a l.length c] (α := Unit) (fun _ => .agg (KGotV.mk (kvG l).2 (kvG l).1).cells) (fun _ => H) := by
 refine CT_intro Tryz.func86 rfl Tryz.ntmps86 rfl (T2 (ze rfl (Ef_allocN (fun b2 => ?_))))
 refine T4 (Qms rfl rfl (ze rfl (zc (rReadCount_c (k := 0) (m := 16) (by omega) hl (by decide) (by decide)) rfl (fun x11 => ?_))))
 rw [List.drop_zero]
 obtain ⟨hb1, hb2, hb3⟩ := rdCount_bound l 16
 refine ze rfl (Ef_allocN (fun b3 => ?_))
 refine zN (zs rfl rfl (TX (zS (T2 (zy (zf 3 rfl rfl) (zy (zl rfl) (zy (Qt_neq rfl rfl) (TX (zC rfl (fun h14 => ?_) (fun h14 => ?_))))))))))
 ·
  have p14 := cL h14
  refine T2 (zy (zf 3 rfl rfl) (zy (zl rfl) (zy (zw [(1, (.int .i64 _))] rfl) (zN (zs rfl rfl (TX (zQ (zr ?_))))))))
  have e : kvG l = ((rdCount l 16).1, Z16) := by unfold kvG; exact if_pos (by simpa using h14)
  rw [e]
  exact zX () [_] Tryz.results86 ⟨⟨_, rfl, res_cellN rfl⟩, trivial⟩ rfl SB
 have p14 := cL h14
 have hc0 : (rdCount l 16).1 = 0 := by simpa using h14
 have hc4 := (rdCount_ok hc0).2.1
 rw [← show rdCount l 16 = rdPacked l from (rdCount_ok hc0).1] at hc4
 refine S4 (zy (Qt_val (zw [] rfl) (show _ = Value.agg KGotV.zero.cells from rfl)) (ze rfl (Ef_allocN (fun b4 => ?_))))
 refine zN (zs rfl rfl (T4 (zy (zf 2 rfl rfl) (zy (zl rfl) (Qai rfl rfl (T4 (Qai rfl rfl (TX (zS (T2 (Qai rfl rfl (TX (zB ?_)))))))))))))
 refine T_loop [5, 6, 7, 8, 9, 21, 22, 23, 24, 25, 26, 27, 28, 29, 30, 31, 32, 33, 34, 35, 36, 37, 38, 39, 40, 41, 42, 43, 44, 45, 46, 47, 48, 49, 50, 51, 52, 53, 54, 55, 56, 57, 58, 59, 60, 61, 62, 63, 64, 65, 66, 67, 68, 69, 70, 71, 72, 73] [7, 5, 6] (fun us H' => ∃ (k : Nat) (q : Nat) (la : Int) (cs : Vector CellV 16), us = [.int .i64 (k : Int), .int .i64 (q : Int), .int .i64 la] ∧ blk b4 (.cells (KGotV.mk cs 0).cells 175 (0, 0)) :: blk b3 (.cells (GotV.mk ((rdCount l 16).2.1 : Int) ⟨none, 0, []⟩ ((rdCount l 16).2.2 : Int) (rdCount l 16).1).cells 123 (0, 0)) :: blk b2 (.cells KGotV.zero.cells 175 (0, 0)) :: H = H' ∧ k ≤ (rdCount l 16).2.1 ∧ (q ≤ l.length) ∧ ((kvGo l (rdCount l 16).2.1 (rdCount l 16).2.2 (-1) Z16) = kvGo l ((rdCount l 16).2.1 - k) q la cs)) (fun us => match us with | .int _ i :: _ => (rdCount l 16).2.1 - i.toNat | _ => 0) ⟨0, (rdCount l 16).2.2, -1, Z16, rfl, rfl, by omega, hb2, rfl⟩ SB ?_
 rintro τ0 _ _  ⟨k, q, la, cs, rfl, rfl, hk0, hat, hi⟩ _
 refine zS (T2 (Qmi rfl rfl (zy (zf 0 rfl rfl) (zy (zl rfl) (zy (Qt_conv_i64 rfl rfl Tryz.underlying3 (by omega) (by omega)) (zy (Qt_lss rfl rfl) (TX (zC rfl (fun h25 => ?_) (fun h25 => ?_)))))))))
 ·
  have p25 := cL h25
  have hk : k < (rdCount l 16).2.1 := by omega
  rw [show (rdCount l 16).2.1 - k = ((rdCount l 16).2.1 - (k + 1)) + 1 from by omega] at hi
  have hu8 := (l.getD q 0).toNat_lt
  refine zk (zx (zS (zB (T2 (Qms rfl rfl (Qmi rfl rfl (ze rfl (zc (rReadFixed_c (k := q) hat hl (n := 1)) rfl (fun x30 => ?_)))))))))
  refine ze rfl (Ef_allocN (fun b8 => ?_))
  refine zN (zs rfl rfl (TX (zS (T2 (zy (zf 3 rfl rfl) (zy (zl rfl) (zy (Qt_neq rfl rfl) (TX (zC rfl (fun h33 => ?_) (fun h33 => ?_))))))))))
  ·
   have p33 := cL h33
   obtain ⟨hs, h1⟩ := fx1e (l := l) (q := q) (by simpa using h33)
   rw [h1]
   rw [kvGo_1 hs] at hi
   refine T2 (zy (zf 3 rfl rfl) (zy (zl rfl) (zy (zw [(1, (.int .i64 _))] rfl) (zN (zs rfl rfl (TX (zQ (zr (zb (zr (X_loop_ret (zb (zr ?_)))))))))))))
   have e : kvG l = (1, Z16) := by unfold kvG; rw [if_neg (by simpa using h14), hi, if_pos (show ¬ (1 : Int) = 0 by decide)]
   rw [e]
   exact zX () [_] Tryz.results86 ⟨⟨_, rfl, res_cellN rfl⟩, trivial⟩ rfl SB
  have p33 := cL h33
  obtain ⟨hqk, hfx⟩ := fx1 (l := l) (q := q) (by simpa using h33)
  rw [hfx]
  refine S4 (Qms rfl rfl (Qmi rfl rfl (zy (zj rfl rfl) ?_)))
  rw [show (q : Int) + 1 = ((q + 1 : Nat) : Int) from by omega]
  refine ze rfl (zc (rReadPacked_c (k := q + 1) (by omega) hl) rfl (fun x40 => ?_))
  have hpb := (rdPacked_bound (l.drop (q + 1))).2.1
  rw [List.length_drop] at hpb
  refine ze rfl (Ef_allocN (fun b9 => ?_))
  refine zN (zs rfl rfl (TX (zS (T2 (zy (zf 3 rfl rfl) (zy (zl rfl) (zy (Qt_neq rfl rfl) (TX (zC rfl (fun h43 => ?_) (fun h43 => ?_))))))))))
  ·
   have p43 := cL h43
   rw [kvGo_2 hqk (by simpa using h43)] at hi
   refine T2 (zy (zf 3 rfl rfl) (zy (zl rfl) (zy (zw [(1, (.int .i64 _))] rfl) (zN (zs rfl rfl (TX (zQ (zr (zb (zr (X_loop_ret (zb (zr ?_)))))))))))))
   have e : kvG l = ((rdPacked (l.drop (q + 1))).1, Z16) := by unfold kvG; rw [if_neg (by simpa using h14), hi, if_pos (by simpa using h43)]
   rw [e]
   exact zX () [_] Tryz.results86 ⟨⟨_, rfl, res_cellN rfl⟩, trivial⟩ rfl SB
  have p43 := cL h43
  have hp0 : (rdPacked (l.drop (q + 1))).1 = 0 := by simpa using h43
  refine zk (zx (zS (T2 (zy (zf 0 rfl rfl) (zy (zl rfl) (zy (Qt_conv_i64 rfl rfl Tryz.underlying3 (by omega) (by omega)) (zy (Qt_gtr rfl rfl) (Qmb rfl rfl (TL_split 51 rfl (fun h51 => ?_) (fun h51 => ?_))))))))))
  ·
   have p51 := cL h51
   refine zp rfl rfl h51 rfl (zp rfl rfl h51 rfl (zp rfl rfl h51 rfl (zp rfl rfl h51 rfl (zp rfl rfl h51 rfl (zy (zT (.bool _) rfl h51 rfl) (TX (T_cond_true rfl rfl ?_)))))))
   rw [kvGo_3 hqk hp0 (by first | (left; omega) | (right; omega))] at hi
   refine T2 (zy (zw [(1, (.int .i64 _))] rfl) (zN (zs rfl rfl (TX (zQ (zr (zb (zr (X_loop_ret (zb (zr ?_)))))))))))
   have e : kvG l = (2, Z16) := by unfold kvG; rw [if_neg (by simpa using h14), hi, if_pos (show ¬ (2 : Int) = 0 by decide)]
   rw [e]
   exact zX () [_] Tryz.results86 ⟨⟨_, rfl, res_cellN rfl⟩, trivial⟩ rfl SB
  have p51 := cL h51
  refine zt rfl rfl h51 (zy (zf 0 rfl rfl) (zt rfl rfl h51 (zy (zl rfl) (zt rfl rfl h51 (zy (Qt_conv_i64 rfl rfl Tryz.underlying3 (by omega) (by omega)) (zt rfl rfl h51 (Qmi rfl rfl (zt rfl rfl h51 (zy (Qt_leq rfl rfl) (zy (zF (.bool _) rfl h51 rfl) (TX (zC rfl (fun h57 => ?_) (fun h57 => ?_)))))))))))))
  ·
   have p57 := cL h57
   rw [kvGo_3 hqk hp0 (by first | (left; omega) | (right; omega))] at hi
   refine T2 (zy (zw [(1, (.int .i64 _))] rfl) (zN (zs rfl rfl (TX (zQ (zr (zb (zr (X_loop_ret (zb (zr ?_)))))))))))
   have e : kvG l = (2, Z16) := by unfold kvG; rw [if_neg (by simpa using h14), hi, if_pos (show ¬ (2 : Int) = 0 by decide)]
   rw [e]
   exact zX () [_] Tryz.results86 ⟨⟨_, rfl, res_cellN rfl⟩, trivial⟩ rfl SB
  have p57 := cL h57
  have hk16 : (l.getD q 0).toNat < 16 := by omega
  have hput : Put (KGotV.mk cs 0).cells ((l.getD q 0).toNat * 2) (.agg (CellV.mk true (unfoldN (rdPacked (l.drop (q + 1))).2.1)).cells) _ := put_kelem (KGotV.mk cs 0) (l.getD q 0).toNat hk16 (CellV.mk true (unfoldN (rdPacked (l.drop (q + 1))).2.1))
  have hgo := kvGo_4 (n := (rdCount l 16).2.1 - (k + 1)) (la := la) (cs := cs) hqk hp0 (by constructor <;> omega)
  rw [hgo] at hi
  refine S4 (zy (zf 0 rfl rfl) (zy (zl rfl) (zy (Qt_conv_i64 rfl rfl Tryz.underlying3 (by omega) (by omega)) (Qai rfl rfl (T4 (Qmi rfl rfl (zy (zf 0 rfl rfl) (zy (zl rfl) (ze rfl (zc (rUnfold_c (x := (rdPacked (l.drop (q + 1))).2.1) (rdPacked_bound _).2.2) rfl (fun x65 => ?_)))))))))))
  refine zy (Qt_val (zw [(0, .bool _), (1, .int .i64 _)] rfl) (show _ = Value.agg (CellV.mk true (unfoldN (rdPacked (l.drop (q + 1))).2.1)).cells from rfl)) (zy (zf 0 rfl rfl) (zy (Qt_indexAddr_arrC (sz := 2) ((l.getD q 0).toNat * 2) (l.getD q 0).toNat rfl rfl Tryz.underlying60 rfl rfl (by rw [Nat.blt_eq]; exact hk16) (by omega)) (zN (zs rfl rfl (TX (zR (Qmi rfl rfl (zy (zf 2 rfl rfl) (zy (zl rfl) (zy (zj rfl rfl) ?_))))))))))
  rw [show (1 : Int) + (((rdPacked (l.drop (q + 1))).2.2 : Nat) : Int) = ((1 + (rdPacked (l.drop (q + 1))).2.2 : Nat) : Int) from by omega]
  refine zy (zj rfl rfl) ?_
  rw [show (q : Int) + ((1 + (rdPacked (l.drop (q + 1))).2.2 : Nat) : Int) = ((q + 1 + (rdPacked (l.drop (q + 1))).2.2 : Nat) : Int) from by omega]
  refine Qai rfl rfl (zz (X_block (zx (zR (Qmi rfl rfl (zy (zj rfl rfl) (Qai rfl rfl (zz ?_))))))))
  apply X_loop
  case ha => exact zA
  case hI => exact ⟨k + 1, (q + 1 + (rdPacked (l.drop (q + 1))).2.2), ((l.getD q 0).toNat : Int), cs.set (l.getD q 0).toNat (CellV.mk true (unfoldN (rdPacked (l.drop (q + 1))).2.1)), rfl, rfl, by omega, by omega, hi⟩
  case hm => exact by show (rdCount l 16).2.1 - (k + 1 : Int).toNat < (rdCount l 16).2.1 - (k : Int).toNat; omega
  case hH => exact SB
 have p25 := cL h25
 have hkn : k = (rdCount l 16).2.1 := by omega
 rw [hkn, Nat.sub_self] at hi
 have hie : (kvGo l (rdCount l 16).2.1 (rdCount l 16).2.2 (-1) Z16) = (0, q, cs) := hi.trans kvGo_0
 refine zY (zG (zW (zE (zx (zS (T2 (Qmi rfl rfl (Qms rfl rfl (zy (zL rfl Tryz.underlying33) (zy (Qt_lss rfl rfl) (TX (zC rfl (fun h77 => ?_) (fun h77 => ?_)))))))))))))
 ·
  have p77 := cL h77
  refine T2 (zy (zw [(1, (.int .i64 _))] rfl) (zN (zs rfl rfl (TX (zQ (zr ?_))))))
  have e : kvG l = (2, Z16) := by unfold kvG; rw [if_neg (by simpa using h14), hie, if_neg (show ¬ (0 : Int) ≠ 0 by decide), if_pos (by show q < l.length; omega)]
  rw [e]
  exact zX () [_] Tryz.results86 ⟨⟨_, rfl, res_cellN rfl⟩, trivial⟩ rfl SB
 have p77 := cL h77
 refine S4 (zy (zn rfl rfl) (zN (zs rfl rfl (TX (zQ ?_)))))
 have e : kvG l = (0, cs) := by unfold kvG; rw [if_neg (by simpa using h14), hie, if_neg (show ¬ (0 : Int) ≠ 0 by decide), if_neg (by show ¬ q < l.length; omega)]
 rw [e]
 exact zX () [_] Tryz.results86 ⟨⟨_, rfl, res_cellN rfl⟩, trivial⟩ rfl SB
end
section
open Go.RowKit Go.Sx
set_option maxRecDepth 100000
set_option maxHeartbeats 1000000
attribute [local irreducible] rdFixed rdText rdPacked rdCount kvGo replyG wSt wNext kvG evG viewG worldG
theorem rWorldGet_c {w0 : World} {H : List SA} {a : Option Addr} {l : List UInt8} {c : Nat} [hr : RdB w0 H (.slice a l.length c) l] (hl : l.length ≤ 4294967296) :
 CT Tryz.prog w0 (H) 45 [.slice a l.length c] (α := Unit) (fun _ => .agg (WGotV.mk (worldG l).2 (worldG l).1).cells) (fun _ => H) := by
 refine CT_intro Tryz.func45 rfl Tryz.ntmps45 rfl (T2 (ze rfl (Ef_allocN (fun b2 => ?_))))
 refine TX (zS (T2 (Qms rfl rfl (zy (zL rfl Tryz.underlying33) (zy (Qt_lss rfl rfl) (TX (zC rfl (fun h15 => ?_) (fun h15 => ?_))))))))
 ·
  have p15 := cL h15
  refine T2 (zy (zw [(1, (.int .i64 _))] rfl) (zN (zs rfl rfl (TX (zQ (zr ?_))))))
  have e : worldG l = (1, .zero) := by unfold worldG; exact if_pos (by omega)
  rw [e]
  exact zX () [_] Tryz.results45 ⟨⟨_, rfl, res_cellN rfl⟩, trivial⟩ rfl SB
 have p15 := cL h15
 have h4 : 4 ≤ l.length := by omega
 refine S4 (zy (Qt_val (zw [] rfl) (show _ = Value.agg (WGotV.mk WorldV.zero 0).cells from rfl)) (ze rfl (Ef_allocN (fun b3 => ?_))))
 refine zN (zs rfl rfl (T4 (Qms rfl rfl (ze rfl (zc (rReadFixed_c (k := 0) (by omega) hl (n := 2)) rfl (fun x19 => ?_))))))
 rw [List.drop_zero]
 have hf1 := rdFixed_two l
 refine zy (Qt_field1 (ft := 121) rfl rfl) (zy (Qt_conv_i64 rfl rfl Tryz.underlying3 (by omega) (by omega)) (zy (zf 0 rfl rfl) (zy (zf 0 rfl rfl) (zN (Ef_store1 (.int .i64 _) rfl rfl (T4 (Qms rfl rfl (ze rfl (zc (rReadFixed_c (k := 2) (by omega) hl (n := 2)) rfl (fun x25 => ?_))))))))))
 have hf2 := rdFixed_two (l.drop 2)
 refine zy (Qt_field1 (ft := 121) rfl rfl) (zy (Qt_conv_i64 rfl rfl Tryz.underlying3 (by omega) (by omega)) (zy (zf 0 rfl rfl) (zy (zf 1 rfl rfl) (zN (Ef_store1 (.int .i64 _) rfl rfl (T4 (Qai rfl rfl (TX (zS (T2 (Qai rfl rfl (TX (zB ?_)))))))))))))
 refine T_loop [4, 5, 6, 7, 8, 9, 10, 11, 12, 30, 31, 32, 33, 34, 35, 36, 37, 38, 39, 40, 41, 42, 43, 44, 45, 46, 47, 48, 49, 50, 51, 52, 53, 54, 55, 56, 57, 58, 59, 60, 61, 62, 63, 64, 65, 66, 67, 68, 69, 70, 71, 72, 73, 74, 75, 76, 77, 78, 79, 80, 81, 82, 83, 84, 85, 86, 87, 88, 89, 90, 91] [5, 4] (fun us H' => ∃ (i : Nat), us = [.int .i64 (i : Int), .int .i64 (((wSt l i).q : Nat) : Int)] ∧ blk b3 (.cells (WGotV.mk (wSt l i).w 0).cells 126 (0, 0)) :: blk b2 (.cells (WGotV.mk WorldV.zero 0).cells 126 (0, 0)) :: H = H' ∧ i ≤ 9 ∧ ((wSt l i).e = 0)) (fun us => match us with | .int _ i :: _ => 9 - i.toNat | _ => 0) ⟨0, by rw [wSt_0q]; rfl, rfl, by omega, wSt_0e l⟩ (fun w hw => by
  rw [wSt_0]
  exact SB w hw) ?_
 rintro τ0 _ _  ⟨i, rfl, rfl, hi0, hek⟩ _
 refine zS (T2 (Qmi rfl rfl (zy (Qt_lss rfl rfl) (TX (zC rfl (fun h31 => ?_) (fun h31 => ?_))))))
 ·
  have p31 := cL h31
  have hi9 : i < 9 := by omega
  have hqk := wSt_q h4 i
  refine zk (zx (zS (zB (T2 (Qms rfl rfl (Qmi rfl rfl (ze rfl (zc (rReadText_c (k := (wSt l i).q) (m := 1000) hqk hl (by decide) (by decide)) rfl (fun x36 => ?_)))))))))
  have htb := (rdText_bound (l.drop (wSt l i).q) 1000)
  rw [List.length_drop] at htb
  refine ze rfl (Ef_allocN (fun b6 => ?_))
  refine zN (zs rfl rfl (TX (zS (T2 (zy (zf 3 rfl rfl) (zy (zl rfl) (zy (Qt_neq rfl rfl) (TX (zC rfl (fun h39 => ?_) (fun h39 => ?_))))))))))
  ·
   have p39 := cL h39
   have hfin := wSt_fin (l := l) (i := i + 1) (by omega) h4 (by rw [wSt_succ, wNext_err hek (by simpa using h39)]; simpa using h39)
   rw [wSt_succ, wNext_err hek (by simpa using h39)] at hfin
   dsimp only at hfin
   refine T2 (zy (zf 3 rfl rfl) (zy (zl rfl) (zy (zw [(1, (.int .i64 _))] rfl) (zN (zs rfl rfl (TX (zQ (zr (zb (zr (X_loop_ret (zb (zr ?_)))))))))))))
   rw [hfin]
   exact zX () [_] Tryz.results45 ⟨⟨_, rfl, res_cellN rfl⟩, trivial⟩ rfl SB
  have p39 := cL h39
  have hx : (rdText (l.drop (wSt l i).q) 1000).1 = 0 := by simpa using h39
  refine S4 (Qmi rfl rfl (zy (zf 2 rfl rfl) (zy (zl rfl) (zy (zj rfl rfl) ?_))))
  rw [show (((wSt l i).q : Nat) : Int) + (((rdText (l.drop (wSt l i).q) 1000).2.2 : Nat) : Int) = (((wSt l i).q + (rdText (l.drop (wSt l i).q) 1000).2.2 : Nat) : Int) from by omega]
  refine Qai rfl rfl (T4 (Qai rfl rfl (TX (zS (T2 (Qmi rfl rfl (zy (Qt_lss rfl rfl) (TX (zC rfl (fun h48 => ?_) (fun h48 => ?_))))))))))
  ·
   have p48 := cL h48
   refine T2 (zy (zf 1 rfl rfl) (zy (zl rfl) (ze rfl (zc (rViewsGet_c (a := x36.a) (l := (rdText (l.drop (wSt l i).q) 1000).2.1) (c := x36.c) (by omega)) rfl (fun x52 => ?_)))))
   refine zy (zm (.tuple _) rfl) (zy (Qt_extract rfl) (zy (Qt_extract rfl) (ze rfl (Ef_allocN (fun b8 => ?_)))))
   refine zN (zs rfl rfl (Qai rfl rfl (T4 (Qmi rfl rfl (Qai rfl rfl (T4 (Qmi rfl rfl (zy (Qt_eql rfl rfl) (TX (zC rfl (fun h57 => ?_) (fun h57 => ?_)))))))))))
   ·
    have p57 := cL h57
    have hok := wSt_succ l i
    rw [wNext_0i (by omega) hek hx] at hok
    refine zR (zy (zn rfl rfl) (zy (zf 0 rfl rfl) (zy (zf 2 rfl rfl) (zN (zs rfl rfl (T4 (Qmi rfl rfl (zy (Qt_neq rfl rfl) (TX (zC rfl (fun h89 => ?_) (fun h89 => ?_)))))))))))
    ·
     have p89 := cL h89
     have hfin := wSt_fin (l := l) (i := i + 1) (by omega) h4 (by rw [hok]; simpa using h89)
     rw [hok] at hfin
     dsimp only at hfin
     refine T2 (Qmi rfl rfl (zy (zw [(1, (.int .i64 _))] rfl) (zN (zs rfl rfl (TX (zQ (zb (zr (X_loop_ret (zb (zr ?_)))))))))))
     rw [hfin]
     exact zX () [_] Tryz.results45 ⟨⟨_, rfl, res_cellN rfl⟩, trivial⟩ rfl SB
    have p89 := cL h89
    have hek1 : (wSt l (i + 1)).e = 0 := by rw [hok]; simpa using h89
    have hpk : (wSt l (i + 1)).q = (wSt l i).q + (rdText (l.drop (wSt l i).q) 1000).2.2 := by rw [hok]
    rw [← hpk]
    have hwk := congrArg WSt.w hok
    dsimp only at hwk
    refine zk (X_block (zx (zR (Qmi rfl rfl (zy (zj rfl rfl) (Qai rfl rfl (zz ?_)))))))
    apply X_loop
    case ha => exact zA
    case hI => exact ⟨i + 1, rfl, rfl, by omega, hek1⟩
    case hm => exact by show 9 - (i + 1 : Int).toNat < 9 - (i : Int).toNat; omega
    case hH => exact (fun w hw => by
     rw [show (wSt l (i + 1)).w = _ from hwk]
     exact SB w hw)
   have p57 := cL h57
   have hok := wSt_succ l i
   rw [wNext_1i (by omega) hek hx] at hok
   refine zR (zy (zn rfl rfl) (zy (zf 0 rfl rfl) (zy (zf 4 rfl rfl) (zN (zs rfl rfl (T4 (Qmi rfl rfl (zy (Qt_neq rfl rfl) (TX (zC rfl (fun h89 => ?_) (fun h89 => ?_)))))))))))
   ·
    have p89 := cL h89
    have hfin := wSt_fin (l := l) (i := i + 1) (by omega) h4 (by rw [hok]; simpa using h89)
    rw [hok] at hfin
    dsimp only at hfin
    refine T2 (Qmi rfl rfl (zy (zw [(1, (.int .i64 _))] rfl) (zN (zs rfl rfl (TX (zQ (zb (zr (X_loop_ret (zb (zr ?_)))))))))))
    rw [hfin]
    exact zX () [_] Tryz.results45 ⟨⟨_, rfl, res_cellN rfl⟩, trivial⟩ rfl SB
   have p89 := cL h89
   have hek1 : (wSt l (i + 1)).e = 0 := by rw [hok]; simpa using h89
   have hpk : (wSt l (i + 1)).q = (wSt l i).q + (rdText (l.drop (wSt l i).q) 1000).2.2 := by rw [hok]
   rw [← hpk]
   have hwk := congrArg WSt.w hok
   dsimp only at hwk
   refine zk (X_block (zx (zR (Qmi rfl rfl (zy (zj rfl rfl) (Qai rfl rfl (zz ?_)))))))
   apply X_loop
   case ha => exact zA
   case hI => exact ⟨i + 1, rfl, rfl, by omega, hek1⟩
   case hm => exact by show 9 - (i + 1 : Int).toNat < 9 - (i : Int).toNat; omega
   case hH => exact (fun w hw => by
    rw [show (wSt l (i + 1)).w = _ from hwk]
    exact SB w hw)
  have p48 := cL h48
  refine T2 (Qmi rfl rfl (zy (Qt_eql rfl rfl) (TX (zC rfl (fun h65 => ?_) (fun h65 => ?_)))))
  ·
   have p65 := cL h65
   have hok := wSt_succ l i
   rw [wNext_2i (by omega) hek hx] at hok
   refine T2 (zy (zf 1 rfl rfl) (zy (zl rfl) (ze rfl (zc (rKvGet_c (a := x36.a) (l := (rdText (l.drop (wSt l i).q) 1000).2.1) (c := x36.c) (by omega)) rfl (fun x68 => ?_)))))
   refine ze rfl (Ef_allocN (fun b10 => ?_))
   refine zN (zs rfl rfl (T4 (zy (zf 32 rfl rfl) (zy (zl rfl) (Qai rfl rfl (TX (zR (zy (zf 0 rfl rfl) (zy (zn rfl rfl) (zy (zf 0 rfl rfl) (zy (zf 6 rfl rfl) ?_)))))))))))
   refine zN (zs rfl rfl (T4 (Qmi rfl rfl (zy (Qt_neq rfl rfl) (TX (zC rfl (fun h89 => ?_) (fun h89 => ?_)))))))
   ·
    have p89 := cL h89
    have hfin := wSt_fin (l := l) (i := i + 1) (by omega) h4 (by rw [hok]; simpa using h89)
    rw [hok] at hfin
    dsimp only at hfin
    refine T2 (Qmi rfl rfl (zy (zw [(1, (.int .i64 _))] rfl) (zN (zs rfl rfl (TX (zQ (zb (zr (X_loop_ret (zb (zr ?_)))))))))))
    rw [hfin]
    exact zX () [_] Tryz.results45 ⟨⟨_, rfl, res_cellN rfl⟩, trivial⟩ rfl SB
   have p89 := cL h89
   have hek1 : (wSt l (i + 1)).e = 0 := by rw [hok]; simpa using h89
   have hpk : (wSt l (i + 1)).q = (wSt l i).q + (rdText (l.drop (wSt l i).q) 1000).2.2 := by rw [hok]
   rw [← hpk]
   have hwk := congrArg WSt.w hok
   dsimp only at hwk
   refine zk (X_block (zx (zR (Qmi rfl rfl (zy (zj rfl rfl) (Qai rfl rfl (zz ?_)))))))
   apply X_loop
   case ha => exact zA
   case hI => exact ⟨i + 1, rfl, rfl, by omega, hek1⟩
   case hm => exact by show 9 - (i + 1 : Int).toNat < 9 - (i : Int).toNat; omega
   case hH => exact (fun w hw => by
    rw [show (wSt l (i + 1)).w = _ from hwk]
    exact SB w hw)
  have p65 := cL h65
  have hok := wSt_succ l i
  rw [wNext_3i (by omega) hi9 hek hx] at hok
  have hput := put_glast (WGotV.mk (wSt l i).w 0) (i - 3) (by omega) (replyG (rdText (l.drop (wSt l i).q) 1000).2.1).2
  refine T2 (zy (zf 1 rfl rfl) (zy (zl rfl) (ze rfl (zc (rGetReply_c (a := x36.a) (l := (rdText (l.drop (wSt l i).q) 1000).2.1) (c := x36.c) (by omega)) rfl (fun x78 => ?_)))))
  refine zy (zm (.tuple _) rfl) (zy (Qt_extract rfl) (zy (Qt_extract rfl) (ze rfl (Ef_allocN (fun b11 => ?_)))))
  refine zN (zs rfl rfl (Qai rfl rfl (T4 (Qmi rfl rfl (Qai rfl rfl (TX (zR (Qmi rfl rfl (zy (zh rfl rfl) ?_)))))))))
  rw [show (i : Int) - 3 = ((i - 3 : Nat) : Int) from by omega]
  refine zy (zn rfl rfl) (zy (zf 0 rfl rfl) (zy (zf 38 rfl rfl) (zy (Qt_indexAddr_arrC (sz := 5) (38 + (i - 3) * 5) (i - 3) rfl rfl Tryz.underlying65 rfl rfl (by rw [Nat.blt_eq]; omega) rfl) (zN (zs rfl rfl (T4 (Qmi rfl rfl (zy (Qt_neq rfl rfl) (TX (zC rfl (fun h89 => ?_) (fun h89 => ?_)))))))))))
  ·
   have p89 := cL h89
   have hfin := wSt_fin (l := l) (i := i + 1) (by omega) h4 (by rw [hok]; simpa using h89)
   rw [hok] at hfin
   dsimp only at hfin
   refine T2 (Qmi rfl rfl (zy (zw [(1, (.int .i64 _))] rfl) (zN (zs rfl rfl (TX (zQ (zb (zr (X_loop_ret (zb (zr ?_)))))))))))
   rw [hfin]
   exact zX () [_] Tryz.results45 ⟨⟨_, rfl, res_cellN rfl⟩, trivial⟩ rfl SB
  have p89 := cL h89
  have hek1 : (wSt l (i + 1)).e = 0 := by rw [hok]; simpa using h89
  have hpk : (wSt l (i + 1)).q = (wSt l i).q + (rdText (l.drop (wSt l i).q) 1000).2.2 := by rw [hok]
  rw [← hpk]
  have hwk := congrArg WSt.w hok
  dsimp only at hwk
  refine zk (X_block (zx (zR (Qmi rfl rfl (zy (zj rfl rfl) (Qai rfl rfl (zz ?_)))))))
  apply X_loop
  case ha => exact zA
  case hI => exact ⟨i + 1, rfl, rfl, by omega, hek1⟩
  case hm => exact by show 9 - (i + 1 : Int).toNat < 9 - (i : Int).toNat; omega
  case hH => exact (fun w hw => by
   rw [show (wSt l (i + 1)).w = _ from hwk]
   exact SB w hw)
 have p31 := cL h31
 obtain rfl : i = 9 := by omega
 have hq9 := wSt_q h4 9
 refine zY (zG (zW (zE (zx (zS (T2 (Qmi rfl rfl (Qms rfl rfl (zy (zL rfl Tryz.underlying33) (zy (Qt_lss rfl rfl) (TX (zC rfl (fun h95 => ?_) (fun h95 => ?_)))))))))))))
 ·
  have p95 := cL h95
  refine T2 (zy (zw [(1, (.int .i64 _))] rfl) (zN (zs rfl rfl (TX (zQ (zr ?_))))))
  have e : worldG l = (2, .zero) := by unfold worldG; rw [if_neg (by omega), if_neg (by rw [hek]; decide), if_pos (by omega)]
  rw [e]
  exact zX () [_] Tryz.results45 ⟨⟨_, rfl, res_cellN rfl⟩, trivial⟩ rfl SB
 have p95 := cL h95
 refine S4 (zy (zn rfl rfl) (zN (zs rfl rfl (TX (zQ ?_)))))
 have e : worldG l = (0, (wSt l 9).w) := by unfold worldG; rw [if_neg (by omega), if_neg (by rw [hek]; decide), if_neg (by omega)]
 rw [e]
 exact zX () [_] Tryz.results45 ⟨⟨_, rfl, res_cellN rfl⟩, trivial⟩ rfl SB
end
end Go.Proofs.YtnijomppbgdmnaaGreat
