/- Votes of one slot: New, acts that are too many, the example. -/
import Derived.Test.YtgjkgdjjolnhdaaDoorIb
namespace Go.Proofs.YtgjkgdjjolnhdaaDoor
open Go.RowKit Go.Sx
set_option maxRecDepth 100000
set_option linter.unusedSimpArgs false
set_option linter.unusedVariables false
@[reducible] def encH (h : Vector UInt8 32) : Value := .agg (hlist h).toArray
def h9 : Vector UInt8 32 := (zeroV 32).set 0 9
def MSI (i : Nat) : MsgD := ⟨2, i, 0, 0, 1, h9, [], []⟩
theorem smallI (i : Nat) : SmallM (MSI i) := ⟨by simp [MSI], by simp [MSI], fun x hx => by cases hx⟩
theorem formedI (i : Nat) (h : i < 3) : formedM (MSI i) = true := by simp only [formedM_iff, MSI]; omega
theorem lenI (i : Nat) : (msgB (MSI i)).length = 42 := by
 rw [msgB_len, headM_len]
 have e : packed 0 = [0] := packed_small (by decide)
 simp [textB, MSI, texts, e]
theorem putI (i : Nat) (h : i < 3) : (putM (MSI i)).2 = 0 := by
 unfold putM
 rw [if_neg (by rw [lenI]; simp [MSI]), if_pos (formedI i h)]
theorem sealI (i : Nat) (h : i < 3) : (sealK (keyT 16) (MSI i)).2 = 0 := by
 rw [sealK_ok (putI i h) (by rw [keyT_len]; show ¬ ((16 : Nat) : Int) ≤ (i : Int); omega)]
theorem has15I : ∀ i < 3, hasV 15 ((i : Nat) : Int) = true := by decide
theorem openI (i : Nat) (h : i < 3) : openOfK (keyT 16) 15 (sealK (keyT 16) (MSI i)).1 = (0, MSI i) := by
 unfold openOfK
 rw [openK_seal (sealI i h) (smallI i), if_neg (by rintro ⟨-, h2⟩; rw [show (MSI i).frm = ((i : Nat) : Int) from rfl, has15I i h] at h2; cases h2)]
theorem sealI_le (i : Nat) : (sealK (keyT 16) (MSI i)).1.length ≤ 65536 := by
 have := putM_le (MSI i)
 unfold sealK
 split
 · simp
 · split
   · simp
   · simp; omega
def votesW (n : Nat) : List VD := (List.range n).map fun i => (MSI i, (sealK (keyT 16) (MSI i)).1)
theorem votesW_zero : votesW 0 = [] := rfl
theorem votesW_succ (n : Nat) : votesW (n + 1) = votesW n ++ [(MSI n, (sealK (keyT 16) (MSI n)).1)] := by simp [votesW, List.range_succ]
theorem getW (k : Nat) (h : k < 3) : (getP (votesW k) (balD (MSI k))).isSome = false := by
 rw [Bool.eq_false_iff]
 intro hs
 obtain ⟨l, hl⟩ := Option.isSome_iff_exists.1 hs
 obtain ⟨v, hv, hb, -⟩ := getP_mem hl
 simp only [votesW, List.mem_map, List.mem_range] at hv
 obtain ⟨i, hi, rfl⟩ := hv
 have := congrArg BalV.frm hb
 simp only [balD, MSI] at this
 omega
theorem takeW (k : Nat) (h : k < 3) : takeI (keyT 16) 0 15 1 (votesW k) (sealK (keyT 16) (MSI k)).1 = (0, votesW (k + 1)) := by
 unfold takeI
 rw [openI k h]
 rw [if_neg (fun h => h rfl), if_neg (by simp [MSI]), if_neg (by simp [MSI]), if_neg (by simp [MSI]), if_neg (by rw [getW k h]; decide), votesW_succ]
theorem mskW (hh : Vector UInt8 32) : mskI 0 1 (votesW 3) ⟨2, 0, hh⟩ = if h9 = hh then 7 else 0 := by
 have e : (votesW 3).map (·.1) = [MSI 0, MSI 1, MSI 2] := rfl
 unfold mskI
 rw [e]
 by_cases h : h9 = hh
 · subst h; rw [if_pos rfl]; decide +kernel
 · rw [if_neg h]; simp [setD, cntD, wMsg, MSI, h]
theorem quorumW : quorumV 0 15 = 3 := by decide +kernel
theorem ones7 : ones16 7 = 3 := by decide +kernel
theorem QrW {y : Option (Vector UInt8 32)} {L : List (List UInt8)} (h : QrI 0 15 1 (votesW 3) 2 0 y L) : y = some h9 ∧ L.length = 3 := by
 have hq : qualI 0 15 1 (votesW 3) ⟨2, 0, h9⟩ = true := by rw [qualI, mskW, if_pos rfl, quorumW, ones7]; decide
 cases y with
 | none => have := h.1 h9; rw [hq] at this; cases this
 | some hh =>
  obtain ⟨h1, h2⟩ := h
  have he : h9 = hh := by
   by_cases he : h9 = hh
   · exact he
   · rw [qualI, mskW, if_neg he, quorumW, ones_zero] at h1; exact absurd h1 (by decide)
  subst he
  refine ⟨rfl, ?_⟩
  rw [h2, listI, List.length_map]
  show (memK (mskI 0 1 (votesW 3) ⟨2, 0, h9⟩)).length = 3
  rw [mskW, if_pos rfl]; decide +kernel
theorem actI_get (l : List ActV) (i j : Nat) (hi : i < l.length) (hj : j < 2) {u : Value} (h : CellAt l[i].cells j u) : (l.flatMap ActV.list)[i * 2 + j]? = some u := by
 rw [flat_get ActV.list 2 ActV.list_len l i j hi hj]
 exact cell_list (l := l[i].list) h
theorem actI_pos {l : List ActV} {i : Nat} (hi : i < l.length) : 0 < (l.flatMap ActV.list).length := by rw [flat_len _ 2 ActV.list_len]; omega
def ShortI (l : List ActV) : Prop := l.length ≤ 60 ∧ ∀ a ∈ l, a.b.l.length ≤ 500
attribute [local irreducible] openOfK openK getM tagOf popB bruijn sealK keyT h9 votesW

set_option maxHeartbeats 1000000 in
theorem instNew_c {w0 : World} {H : List SA} {num slot : Int} {mk : Nat} {sa : Option Addr} {sc : Nat} {ls : List BS} [rk : RdC w0 H (.slice sa ls.length sc) 1 (ls.map BS.val)] [rke : RdE w0 H ls] (hkl : ∀ x ∈ ls, x.l.length ≤ 4294967000) (hn : ls.length ≤ 1000) :
 CT Tryd.prog w0 (H) 25 [.agg (KeysV.mk ⟨sa, sc, ls⟩ ⟨none, 0, 0⟩).cells, .agg (ViewV.mk num (mk : Int)).cells, .int .i64 slot] (α := ((Nat × Nat × Nat × Nat) × (PS × List Nat))) (fun y => .pointer (some ⟨y.1.1, 0, none⟩)) (fun y => pu (y.2.1.ls.map BS.l = ls.map BS.l) :: blk y.1.1 (.cells (InstV.mk (KeysV.mk ⟨y.2.1.a, y.2.1.c, y.2.1.ls⟩ ⟨none, 0, 0⟩) (ViewV.mk num (mk : Int)) slot (some y.1.2.1) (some y.1.2.2.1) (some y.1.2.2.2)).cells 91 (0, 0)) :: blk y.1.2.2.1 (mapO encB BS.val [] 0) :: blk y.1.2.2.2 (mapO encT encM [] 0) :: eachA [] (([] : PMI).map (·.v)) :: dat y.2.2 (Deep.leads (PS.mk y.2.1.a y.2.1.c y.2.1.ls)) :: H) := by
 refine CT_intro Tryd.func25 rfl Tryd.ntmps25 rfl ?_
 refine T_seq ?_
 refine T_region ?_
 refine TL_e rfl (Ef_boxN rfl (fun b3 => ?_))
 refine TL_e rfl (Ef_boxN rfl (fun b4 => ?_))
 refine TL_q (Qt_assign (.pointer _) rfl) rfl ?_
 refine TL_nil ?_
 refine X_then ?_
 refine T_seq ?_
 refine T_region ?_
 refine TL_e rfl (Ef_allocN (fun b7 => ?_))
 refine TL_nil ?_
 refine X_then ?_
 refine T_seq ?_
 refine T_seq ?_
 refine T_region ?_
 refine TL_q (Qt_fieldAddr 0 rfl rfl) rfl ?_
 refine TL_q (Qt_load1 rfl) rfl ?_
 refine TL_q (Qt_len_slice rfl Tryd.underlying28) rfl ?_
 refine TL_q (Qt_move (.int .i64 _) rfl) rfl ?_
 refine TL_nil ?_
 refine X_then ?_
 refine T_block ?_
 refine T_loop [9, 13, 14, 15, 16, 17, 18, 19, 20, 21, 22, 23, 24] [13] (fun us H' => ∃ (k : Nat) (a : Option Addr) (c : Nat) (os : List BS) (fp : List Nat), us = [.int .i64 (k : Int)] ∧ row (.slice a (os).length c) 27 1 ((os).map BS.val) :: eachA fp os :: blk b7 (.cells (KeysV.mk ⟨a, c, os⟩ ⟨none, 0, 0⟩).cells 38 (0, 0)) :: blk b3 (.cells (KeysV.mk ⟨sa, sc, ls⟩ ⟨none, 0, 0⟩).cells 38 (0, 0)) :: blk b4 (.cells (ViewV.mk num (mk : Int)).cells 24 (0, 0)) :: H = H' ∧ k ≤ ls.length ∧ (os.map BS.l = (ls.map BS.l).take k) ∧ (os.length = k)) (fun us => match us with | .int _ i :: _ => ls.length - i.toNat | _ => 0) ⟨0, none, 0, [], [], rfl, rfl, by omega, rfl, rfl⟩ (fun w hw => by
  have h0 : St w0 (blk b7 (.cells (KeysV.mk ⟨none, 0, []⟩ ⟨none, 0, 0⟩).cells 38 (0, 0)) :: blk b3 (.cells (KeysV.mk ⟨sa, sc, ls⟩ ⟨none, 0, 0⟩).cells 38 (0, 0)) :: blk b4 (.cells (ViewV.mk num (mk : Int)).cells 24 (0, 0)) :: H) w := Subs.st inferInstance w hw
  exact (h0.eachNil).addNil 27 1) ?_
 rintro τ0 _ _  ⟨k, a, c, os, fp, rfl, rfl, hk0, hos, hol⟩ _
 refine T_seq ?_
 refine T_region ?_
 refine TL_q (Qt_lss rfl rfl) rfl ?_
 refine TL_nil ?_
 refine X_then ?_
 refine T_seq ?_
 refine T_cond rfl (fun h14 => ?_) (fun h14 => ?_)
 ·
  have p14 := h14
  try simp only [decide_eq_true_eq, decide_eq_false_iff_not, Bool.not_eq_true', Bool.not_eq_false', Option.isNone_iff_eq_none, ne_eq, Decidable.not_not, Int.not_lt, Int.not_le] at p14
  have hk : k < ls.length := by omega
  refine T_skip ?_
  refine X_then ?_
  refine T_seq ?_
  refine T_block ?_
  refine T_seq ?_
  refine T_region ?_
  refine TL_q (Qt_indexR rfl rfl (by omega) (by simp; omega)) rfl ?_
  refine TL_q (Qt_loadR (.slice _ _ _) rfl (vals_get _ _ hk)) rfl ?_
  refine TL_q (Qt_assign (.slice _ _ _) rfl) rfl ?_
  refine TL_nil ?_
  refine X_then ?_
  refine T_drawF H (by kernel_rfl) (Subs.st inferInstance) ?_
  refine DLF_q (i := 0) (by kernel_rfl) rfl (by kernel_rfl) (by kernel_rfl) (Qt_fieldAddr 0 rfl rfl) rfl ?_
  refine DLF_q (i := 2) (by kernel_rfl) rfl (by kernel_rfl) (by kernel_rfl) (Qt_move (.slice _ _ _) rfl) rfl ?_
  refine DLF_2 (i := 1) (j := 3) (by kernel_rfl) ?_ ?_
  ·
   refine DLS_e rfl rfl (Ef_of_Qt (Qt_load1 rfl) ⟨(Subs.st inferInstance), ?_⟩)
   refine DLF_1 (i := 3) (by kernel_rfl) ?_
   have : RdB w0 H (.slice ls[k].a ls[k].l.length ls[k].c) ls[k].l := rke.get (List.getElem_mem hk)
   refine DLS_e rfl rfl (Ef_call (clone_c (by have := hkl _ (List.getElem_mem hk); omega)) rfl (fun x20 => ⟨(Subs.st inferInstance), ?_⟩))
   refine DLF_1 (i := 4) (by kernel_rfl) ?_
   refine DLS_e rfl rfl (Ef_slice1 (v := .slice _ _ _) rfl (fun a21 c21 => ⟨(Subs.st inferInstance), ?_⟩))
   refine DLF_1 (i := 5) (by kernel_rfl) ?_
   refine DLS_e rfl rfl (Ef_appendP (sv := .slice _ _ _) (xv := .slice _ _ _) ⟨x20.a, x20.c, ls[k].l⟩ rfl rfl (by omega) rfl (fun a22 c22 => ⟨(Subs.st inferInstance), ?_⟩))
   refine DLF_q (i := 6) (by kernel_rfl) rfl (by kernel_rfl) (by kernel_rfl) (Qt_fieldAddr 0 rfl rfl) rfl ?_
   refine DLF_1 (i := 7) (by kernel_rfl) ?_
   refine DLS_n rfl (Ef_store1 (.slice _ _ _) rfl rfl (⟨(Subs.st inferInstance), ?_⟩))
   refine DLF_nil (by kernel_rfl) ?_
   refine X_block ?_
   refine X_then ?_
   refine T_region ?_
   first
    | refine TL_q (Qt_add rfl rfl (by omega) (by omega)) rfl ?_
    | refine TL_q (Qt_addw rfl rfl) rfl ?_
   refine TL_q (Qt_move (.int .i64 _) rfl) rfl ?_
   refine TL_nil ?_
   apply X_loop
   case ha => exact (by repeat (first | with_reducible exact agree_refl | refine agree_upd rfl ?_ | refine agree_mix rfl ?_ | refine agree_setAll rfl ?_))
   case hI => exact ⟨k + 1, a22, c22, os ++ [⟨x20.a, x20.c, ls[k].l⟩], rowFp (.slice x20.a ls[k].l.length x20.c) ++ fp, rfl, rfl, by omega, by rw [List.map_append, hos, take_get _ _ (by simpa using hk)]; simp, by simp [hol]⟩
   case hm => exact by show ls.length - (k + 1 : Int).toNat < ls.length - (k : Int).toNat; omega
   case hH => exact fun w hw => eachUnder (Subs.st inferInstance w hw : St w0 (row (.slice a22 (os ++ [(⟨x20.a, x20.c, ls[k].l⟩ : BS)]).length c22) 27 1 ((os ++ [(⟨x20.a, x20.c, ls[k].l⟩ : BS)]).map BS.val) :: row (BS.val ⟨x20.a, x20.c, ls[k].l⟩) 5 1 (bytesV (BS.l ⟨x20.a, x20.c, ls[k].l⟩)) :: eachA fp os :: blk b7 (.cells (KeysV.mk ⟨a22, c22, os ++ [⟨x20.a, x20.c, ls[k].l⟩]⟩ ⟨none, 0, 0⟩).cells 38 (0, 0)) :: blk b3 (.cells (KeysV.mk ⟨sa, sc, ls⟩ ⟨none, 0, 0⟩).cells 38 (0, 0)) :: blk b4 (.cells (ViewV.mk num (mk : Int)).cells 24 (0, 0)) :: H) w)
  ·
   have : RdB w0 H (.slice ls[k].a ls[k].l.length ls[k].c) ls[k].l := rke.get (List.getElem_mem hk)
   refine DLS_e rfl rfl (Ef_call (clone_c (by have := hkl _ (List.getElem_mem hk); omega)) rfl (fun x20 => ⟨(Subs.st inferInstance), ?_⟩))
   refine DLF_2 (i := 1) (j := 4) (by kernel_rfl) ?_ ?_
   ·
    refine DLS_e rfl rfl (Ef_of_Qt (Qt_load1 rfl) ⟨(Subs.st inferInstance), ?_⟩)
    refine DLF_1 (i := 4) (by kernel_rfl) ?_
    refine DLS_e rfl rfl (Ef_slice1 (v := .slice _ _ _) rfl (fun a21 c21 => ⟨(Subs.st inferInstance), ?_⟩))
    refine DLF_1 (i := 5) (by kernel_rfl) ?_
    refine DLS_e rfl rfl (Ef_appendP (sv := .slice _ _ _) (xv := .slice _ _ _) ⟨x20.a, x20.c, ls[k].l⟩ rfl rfl (by omega) rfl (fun a22 c22 => ⟨(Subs.st inferInstance), ?_⟩))
    refine DLF_q (i := 6) (by kernel_rfl) rfl (by kernel_rfl) (by kernel_rfl) (Qt_fieldAddr 0 rfl rfl) rfl ?_
    refine DLF_1 (i := 7) (by kernel_rfl) ?_
    refine DLS_n rfl (Ef_store1 (.slice _ _ _) rfl rfl (⟨(Subs.st inferInstance), ?_⟩))
    refine DLF_nil (by kernel_rfl) ?_
    refine X_block ?_
    refine X_then ?_
    refine T_region ?_
    first
     | refine TL_q (Qt_add rfl rfl (by omega) (by omega)) rfl ?_
     | refine TL_q (Qt_addw rfl rfl) rfl ?_
    refine TL_q (Qt_move (.int .i64 _) rfl) rfl ?_
    refine TL_nil ?_
    apply X_loop
    case ha => exact (by repeat (first | with_reducible exact agree_refl | refine agree_upd rfl ?_ | refine agree_mix rfl ?_ | refine agree_setAll rfl ?_))
    case hI => exact ⟨k + 1, a22, c22, os ++ [⟨x20.a, x20.c, ls[k].l⟩], rowFp (.slice x20.a ls[k].l.length x20.c) ++ fp, rfl, rfl, by omega, by rw [List.map_append, hos, take_get _ _ (by simpa using hk)]; simp, by simp [hol]⟩
    case hm => exact by show ls.length - (k + 1 : Int).toNat < ls.length - (k : Int).toNat; omega
    case hH => exact fun w hw => eachUnder (Subs.st inferInstance w hw : St w0 (row (.slice a22 (os ++ [(⟨x20.a, x20.c, ls[k].l⟩ : BS)]).length c22) 27 1 ((os ++ [(⟨x20.a, x20.c, ls[k].l⟩ : BS)]).map BS.val) :: row (BS.val ⟨x20.a, x20.c, ls[k].l⟩) 5 1 (bytesV (BS.l ⟨x20.a, x20.c, ls[k].l⟩)) :: eachA fp os :: blk b7 (.cells (KeysV.mk ⟨a22, c22, os ++ [⟨x20.a, x20.c, ls[k].l⟩]⟩ ⟨none, 0, 0⟩).cells 38 (0, 0)) :: blk b3 (.cells (KeysV.mk ⟨sa, sc, ls⟩ ⟨none, 0, 0⟩).cells 38 (0, 0)) :: blk b4 (.cells (ViewV.mk num (mk : Int)).cells 24 (0, 0)) :: H) w)
   ·
    refine DLS_e rfl rfl (Ef_slice1 (v := .slice _ _ _) rfl (fun a21 c21 => ⟨(Subs.st inferInstance), ?_⟩))
    refine DLF_1 (i := 1) (by kernel_rfl) ?_
    refine DLS_e rfl rfl (Ef_of_Qt (Qt_load1 rfl) ⟨(Subs.st inferInstance), ?_⟩)
    refine DLF_1 (i := 5) (by kernel_rfl) ?_
    refine DLS_e rfl rfl (Ef_appendP (sv := .slice _ _ _) (xv := .slice _ _ _) ⟨x20.a, x20.c, ls[k].l⟩ rfl rfl (by omega) rfl (fun a22 c22 => ⟨(Subs.st inferInstance), ?_⟩))
    refine DLF_q (i := 6) (by kernel_rfl) rfl (by kernel_rfl) (by kernel_rfl) (Qt_fieldAddr 0 rfl rfl) rfl ?_
    refine DLF_1 (i := 7) (by kernel_rfl) ?_
    refine DLS_n rfl (Ef_store1 (.slice _ _ _) rfl rfl (⟨(Subs.st inferInstance), ?_⟩))
    refine DLF_nil (by kernel_rfl) ?_
    refine X_block ?_
    refine X_then ?_
    refine T_region ?_
    first
     | refine TL_q (Qt_add rfl rfl (by omega) (by omega)) rfl ?_
     | refine TL_q (Qt_addw rfl rfl) rfl ?_
    refine TL_q (Qt_move (.int .i64 _) rfl) rfl ?_
    refine TL_nil ?_
    apply X_loop
    case ha => exact (by repeat (first | with_reducible exact agree_refl | refine agree_upd rfl ?_ | refine agree_mix rfl ?_ | refine agree_setAll rfl ?_))
    case hI => exact ⟨k + 1, a22, c22, os ++ [⟨x20.a, x20.c, ls[k].l⟩], rowFp (.slice x20.a ls[k].l.length x20.c) ++ fp, rfl, rfl, by omega, by rw [List.map_append, hos, take_get _ _ (by simpa using hk)]; simp, by simp [hol]⟩
    case hm => exact by show ls.length - (k + 1 : Int).toNat < ls.length - (k : Int).toNat; omega
    case hH => exact fun w hw => eachUnder (Subs.st inferInstance w hw : St w0 (row (.slice a22 (os ++ [(⟨x20.a, x20.c, ls[k].l⟩ : BS)]).length c22) 27 1 ((os ++ [(⟨x20.a, x20.c, ls[k].l⟩ : BS)]).map BS.val) :: row (BS.val ⟨x20.a, x20.c, ls[k].l⟩) 5 1 (bytesV (BS.l ⟨x20.a, x20.c, ls[k].l⟩)) :: eachA fp os :: blk b7 (.cells (KeysV.mk ⟨a22, c22, os ++ [⟨x20.a, x20.c, ls[k].l⟩]⟩ ⟨none, 0, 0⟩).cells 38 (0, 0)) :: blk b3 (.cells (KeysV.mk ⟨sa, sc, ls⟩ ⟨none, 0, 0⟩).cells 38 (0, 0)) :: blk b4 (.cells (ViewV.mk num (mk : Int)).cells 24 (0, 0)) :: H) w)
 ·
  have p14 := h14
  try simp only [decide_eq_true_eq, decide_eq_false_iff_not, Bool.not_eq_true', Bool.not_eq_false', Option.isNone_iff_eq_none, ne_eq, Decidable.not_not, Int.not_lt, Int.not_le] at p14
  have hos : os.map BS.l = ls.map BS.l := by rw [hos]; exact List.take_of_length_le (by simp; omega)
  refine T_exit ?_
  refine X_then_exit ?_
  refine X_loop_exit ?_
  refine X_block_exit ?_
  refine X_then ?_
  refine T_seq ?_
  refine T_region ?_
  refine TL_q (Qt_fieldAddr 1 rfl rfl) rfl ?_
  refine TL_q (Qt_load1 rfl) rfl ?_
  refine TL_e rfl (Ef_call (cloneHnil_c) rfl (fun x27 => ?_))
  refine TL_q (Qt_fieldAddr 1 rfl rfl) rfl ?_
  refine TL_n (Ef_store1 (.slice _ _ _) rfl rfl (?_))
  refine TL_nil ?_
  refine X_then ?_
  refine T_seq ?_
  refine T_region ?_
  refine TL_q (Qt_loadN rfl rfl) rfl ?_
  refine TL_q (Qt_loadN rfl rfl) rfl ?_
  refine TL_q (Qt_move (.int .i64 _) rfl) rfl ?_
  refine TL_e rfl (Ef_makeMap encH BS.val (fun r32 => ?_))
  refine TL_e rfl (Ef_makeMap encB BS.val (fun r33 => ?_))
  refine TL_e rfl (Ef_makeMap encT encM (fun r34 => ?_))
  refine TL_q (Qt_build [(0, (.agg _)), (1, (.agg _)), (2, (.int .i64 _)), (3, (.map _)), (4, (.map _)), (5, (.map _))] rfl (by kernel_rfl)) rfl ?_
  refine TL_e rfl (Ef_boxN rfl (fun b36 => ?_))
  refine TL_q (Qt_assign (.pointer _) rfl) rfl ?_
  refine TL_nil ?_
  refine X_then ?_
  refine T_ret ?_
  refine X_conv (fun w hw => St.datPS (a := a) (c := c) (ls := os) (fp := fp) (e := 27) (H := blk b36 (.cells (InstV.mk (KeysV.mk ⟨a, c, os⟩ ⟨none, 0, 0⟩) (ViewV.mk num (mk : Int)) slot (some r32) (some r33) (some r34)).cells 91 (0, 0)) :: blk r33 (mapO encB BS.val [] 0) :: blk r34 (mapO encT encM [] 0) :: H) (Subs.st inferInstance w hw)) (fun fp2 => ?_)
  exact X_ret ((b36, r32, r33, r34), (⟨a, c, os⟩, fp2)) [_] Tryd.results25 ⟨rfl, trivial⟩ rfl (fun w hw => by
   have hz : St w0 (eachA [] (([] : PMI).map (·.v)) :: blk b36 (.cells (InstV.mk (KeysV.mk ⟨a, c, os⟩ ⟨none, 0, 0⟩) (ViewV.mk num (mk : Int)) slot (some r32) (some r33) (some r34)).cells 91 (0, 0)) :: blk r33 (mapO encB BS.val [] 0) :: blk r34 (mapO encT encM [] 0) :: dat fp2 (Deep.leads (PS.mk a c os)) :: H) w := (Subs.st inferInstance w hw : St w0 (blk b36 (.cells (InstV.mk (KeysV.mk ⟨a, c, os⟩ ⟨none, 0, 0⟩) (ViewV.mk num (mk : Int)) slot (some r32) (some r33) (some r34)).cells 91 (0, 0)) :: blk r33 (mapO encB BS.val [] 0) :: blk r34 (mapO encT encM [] 0) :: dat fp2 (Deep.leads (PS.mk a c os)) :: H) w).eachNil
   exact (Subs.st inferInstance w hz : St w0 (blk b36 (.cells (InstV.mk (KeysV.mk ⟨a, c, os⟩ ⟨none, 0, 0⟩) (ViewV.mk num (mk : Int)) slot (some r32) (some r33) (some r34)).cells 91 (0, 0)) :: blk r33 (mapO encB BS.val [] 0) :: blk r34 (mapO encT encM [] 0) :: eachA [] (([] : PMI).map (·.v)) :: dat fp2 (Deep.leads (PS.mk a c os)) :: H) w).addPure hos)
set_option maxHeartbeats 1000000 in
theorem long18_c {w0 : World} {H : List SA} {a : Option Addr} {l : List ActV} {c : Nat} [hr : RdC w0 H (.slice a l.length c) 2 (l.flatMap ActV.list)] :
 CT Tryd.prog w0 (H) 24 [.slice a l.length c] (α := Bool) (fun b => .bool b) (fun b => pu (b = false → ShortI l) :: H) := by
 refine CT_intro Tryd.func24 rfl Tryd.ntmps24 rfl ?_
 refine T_seq ?_
 refine T_region ?_
 refine TL_q (Qt_assign (.bool _) rfl) rfl ?_
 refine TL_nil ?_
 refine X_then ?_
 refine T_seq ?_
 refine T_seq ?_
 refine T_region ?_
 refine TL_q (Qt_move (.slice _ _ _) rfl) rfl ?_
 refine TL_q (Qt_len_slice rfl Tryd.underlying52) rfl ?_
 refine TL_q (Qt_gtr rfl rfl) rfl ?_
 refine TL_nil ?_
 refine X_then ?_
 refine T_cond rfl (fun h6 => ?_) (fun h6 => ?_)
 ·
  have p6 := h6
  try simp only [decide_eq_true_eq, decide_eq_false_iff_not, Bool.not_eq_true', Bool.not_eq_false', Option.isNone_iff_eq_none, ne_eq, Decidable.not_not, Int.not_lt, Int.not_le] at p6
  refine T_seq ?_
  refine T_region ?_
  refine TL_q (Qt_assign (.bool _) rfl) rfl ?_
  refine TL_nil ?_
  refine X_then ?_
  refine T_ret ?_
  refine X_then_ret ?_
  exact X_ret true [_] Tryd.results24 ⟨rfl, trivial⟩ rfl (fun w hw => (Subs.st inferInstance w hw : St w0 H w).addPure (fun h => by cases h))
 ·
  have p6 := h6
  try simp only [decide_eq_true_eq, decide_eq_false_iff_not, Bool.not_eq_true', Bool.not_eq_false', Option.isNone_iff_eq_none, ne_eq, Decidable.not_not, Int.not_lt, Int.not_le] at p6
  refine T_skip ?_
  refine X_then ?_
  refine T_seq ?_
  refine T_seq ?_
  refine T_region ?_
  refine TL_q (Qt_move (.slice _ _ _) rfl) rfl ?_
  refine TL_q (Qt_len_slice rfl Tryd.underlying52) rfl ?_
  refine TL_q (Qt_move (.int .i64 _) rfl) rfl ?_
  refine TL_nil ?_
  refine X_then ?_
  refine T_block ?_
  refine T_loop [2, 3, 9, 10, 11, 12, 13, 14, 15, 16, 17, 18, 19] [9] (fun us H' => ∃ (k : Nat), us = [.int .i64 (k : Int)] ∧ H = H' ∧ k ≤ l.length ∧ (∀ (i : Nat) (hi : i < l.length), i < k → l[i].b.l.length ≤ 500)) (fun us => match us with | .int _ i :: _ => l.length - i.toNat | _ => 0) ⟨0, rfl, rfl, by omega, fun i hi h => by omega⟩ (Subs.st inferInstance) ?_
  rintro τ0 _ _  ⟨k, rfl, rfl, hk0, hpre⟩ _
  refine T_seq ?_
  refine T_region ?_
  refine TL_q (Qt_lss rfl rfl) rfl ?_
  refine TL_nil ?_
  refine X_then ?_
  refine T_seq ?_
  refine T_cond rfl (fun h10 => ?_) (fun h10 => ?_)
  ·
   have p10 := h10
   try simp only [decide_eq_true_eq, decide_eq_false_iff_not, Bool.not_eq_true', Bool.not_eq_false', Option.isNone_iff_eq_none, ne_eq, Decidable.not_not, Int.not_lt, Int.not_le] at p10
   have hk : k < l.length := by omega
   refine T_skip ?_
   refine X_then ?_
   refine T_seq ?_
   refine T_block ?_
   refine T_seq ?_
   refine T_region ?_
   refine TL_q (Qt_move (.int .i64 _) rfl) rfl ?_
   refine TL_q (Qt_assign (.int .i64 _) rfl) rfl ?_
   refine TL_nil ?_
   refine X_then ?_
   refine T_seq ?_
   refine T_region ?_
   refine TL_q (Qt_move (.slice _ _ _) rfl) rfl ?_
   refine TL_q (Qt_move (.int .i64 _) rfl) rfl ?_
   refine TL_q (Qt_indexN rfl rfl (by omega) (by omega)) rfl ?_
   refine TL_q (Qt_fieldR rfl 2 (actI_pos hk)) rfl ?_
   refine TL_q (Qt_loadRs 2 (.slice _ _ _) rfl (actI_get l k 1 hk (by decide) inferInstance)) rfl ?_
   refine TL_q (Qt_len_slice rfl Tryd.underlying27) rfl ?_
   refine TL_q (Qt_gtr rfl rfl) rfl ?_
   refine TL_nil ?_
   refine X_then ?_
   refine T_cond rfl (fun h18 => ?_) (fun h18 => ?_)
   ·
    have p18 := h18
    try simp only [decide_eq_true_eq, decide_eq_false_iff_not, Bool.not_eq_true', Bool.not_eq_false', Option.isNone_iff_eq_none, ne_eq, Decidable.not_not, Int.not_lt, Int.not_le] at p18
    refine T_seq ?_
    refine T_region ?_
    refine TL_q (Qt_assign (.bool _) rfl) rfl ?_
    refine TL_nil ?_
    refine X_then ?_
    refine T_ret ?_
    refine X_block_ret ?_
    refine X_then_ret ?_
    refine X_loop_ret ?_
    refine X_block_ret ?_
    refine X_then_ret ?_
    exact X_ret true [_] Tryd.results24 ⟨rfl, trivial⟩ rfl (fun w hw => (Subs.st inferInstance w hw : St w0 H w).addPure (fun h => by cases h))
   ·
    have p18 := h18
    try simp only [decide_eq_true_eq, decide_eq_false_iff_not, Bool.not_eq_true', Bool.not_eq_false', Option.isNone_iff_eq_none, ne_eq, Decidable.not_not, Int.not_lt, Int.not_le] at p18
    have hone : l[k].b.l.length ≤ 500 := by omega
    refine T_skip ?_
    refine X_block ?_
    refine X_then ?_
    refine T_region ?_
    first
     | refine TL_q (Qt_add rfl rfl (by omega) (by omega)) rfl ?_
     | refine TL_q (Qt_addw rfl rfl) rfl ?_
    refine TL_q (Qt_move (.int .i64 _) rfl) rfl ?_
    refine TL_nil ?_
    apply X_loop
    case ha => exact (by repeat (first | with_reducible exact agree_refl | refine agree_upd rfl ?_ | refine agree_mix rfl ?_ | refine agree_setAll rfl ?_))
    case hI => exact ⟨k + 1, rfl, rfl, by omega, fun i hi h => by rcases Nat.lt_or_ge i k with h1 | h1; exact hpre i hi h1; obtain rfl : i = k := (by omega); exact hone⟩
    case hm => exact by show l.length - (k + 1 : Int).toNat < l.length - (k : Int).toNat; omega
    case hH => exact (Subs.st inferInstance)
  ·
   have p10 := h10
   try simp only [decide_eq_true_eq, decide_eq_false_iff_not, Bool.not_eq_true', Bool.not_eq_false', Option.isNone_iff_eq_none, ne_eq, Decidable.not_not, Int.not_lt, Int.not_le] at p10
   refine T_exit ?_
   refine X_then_exit ?_
   refine X_loop_exit ?_
   refine X_block_exit ?_
   refine X_then ?_
   refine T_seq ?_
   refine T_region ?_
   refine TL_q (Qt_assign (.bool _) rfl) rfl ?_
   refine TL_nil ?_
   refine X_then ?_
   refine T_ret ?_
   exact X_ret false [_] Tryd.results24 ⟨rfl, trivial⟩ rfl (fun w hw => (Subs.st inferInstance w hw : St w0 H w).addPure (fun _ => ⟨by omega, fun a ha => by obtain ⟨i, hi, rfl⟩ := List.getElem_of_mem ha; exact hpre i hi (by omega)⟩))
set_option maxHeartbeats 1000000 in
theorem wakes18_c {w0 : World} {H : List SA} [G : Glob w0] :
 CT Tryd.prog w0 (H) 23 [] (α := Unit) (fun _ => .bool true) (fun _ => H) := by
 refine CT_intro Tryd.func23 rfl Tryd.ntmps23 rfl ?_
 refine T_seq ?_
 refine T_region ?_
 refine TL_q (Qt_assign (.bool _) rfl) rfl ?_
 refine TL_nil ?_
 refine X_then ?_
 refine T_seq ?_
 refine T_region ?_
 refine TL_e rfl (Ef_call (table18_c) rfl (fun x8 => ?_))
 refine TL_pure (fun hk8 => ?_)
 refine TL_q (Qt_build [(1, (.int .u16 _))] rfl (by kernel_rfl)) rfl ?_
 refine TL_e rfl (Ef_call (instNew_c (sa := x8.1.a) (sc := x8.1.c) (ls := x8.1.ls) (num := 0) (mk := 15) (slot := 1) (keyT_small hk8).2 (by have := (keyT_small hk8).1; omega)) rfl (fun x10 => ?_))
 refine TL_pure (fun h10 => ?_)
 refine TL_q (Qt_assign (.pointer _) rfl) rfl ?_
 refine TL_nil ?_
 refine X_then ?_
 refine T_seq ?_
 refine T_seq ?_
 refine T_region ?_
 refine TL_q (Qt_move (.int .i64 _) rfl) rfl ?_
 refine TL_nil ?_
 refine X_then ?_
 refine T_block ?_
 refine T_loop [0, 2, 3, 4, 11, 12, 13, 14, 15, 16, 17, 18, 19, 20, 21, 22, 23, 24, 25, 26] [11] (fun us H' => ∃ (k : Nat) (st : IS), us = [.int .i64 (k : Int)] ∧ blk x10.1.1 (.cells (InstV.mk (KeysV.mk ⟨x10.2.1.a, x10.2.1.c, x10.2.1.ls⟩ ⟨none, 0, 0⟩) (ViewV.mk 0 ((15 : Nat) : Int)) 1 (some x10.1.2.1) (some x10.1.2.2.1) (some x10.1.2.2.2)).cells 91 (0, 0)) :: blk x10.1.2.2.1 (mapO encB BS.val st.ps st.c) :: blk x10.1.2.2.2 (mapO encT encM st.ts st.d) :: eachA st.fp ((st.ps : PMI).map (·.v)) :: dat x10.2.2 (Deep.leads (PS.mk x10.2.1.a x10.2.1.c x10.2.1.ls)) :: H = H' ∧ k ≤ 3 ∧ (IsI 0 1 (votesW k) st.ps st.c st.ts st.d)) (fun us => match us with | .int _ i :: _ => 3 - i.toNat | _ => 0) ⟨0, ⟨[], 0, [], 0, []⟩, rfl, rfl, by omega, by rw [votesW_zero]; exact IsI.nil 0 1⟩ (Subs.st inferInstance) ?_
 rintro τ0 _ _  ⟨k, st, rfl, rfl, hk0, hI⟩ _
 refine T_seq ?_
 refine T_region ?_
 refine TL_q (Qt_lss rfl rfl) rfl ?_
 refine TL_nil ?_
 refine X_then ?_
 refine T_seq ?_
 refine T_cond rfl (fun h12 => ?_) (fun h12 => ?_)
 ·
  have p12 := h12
  try simp only [decide_eq_true_eq, decide_eq_false_iff_not, Bool.not_eq_true', Bool.not_eq_false', Option.isNone_iff_eq_none, ne_eq, Decidable.not_not, Int.not_lt, Int.not_le] at p12
  have hk3 : k < 3 := by omega
  refine T_skip ?_
  refine X_then ?_
  refine T_seq ?_
  refine T_block ?_
  refine T_seq ?_
  refine T_region ?_
  refine TL_q (Qt_move (.int .i64 _) rfl) rfl ?_
  refine TL_q (Qt_assign (.int .i64 _) rfl) rfl ?_
  refine TL_nil ?_
  refine X_then ?_
  refine T_seq ?_
  refine T_region ?_
  refine TL_e rfl (Ef_call (table18_c) rfl (fun x15 => ?_))
  refine TL_pure (fun hk15 => ?_)
  refine TL_q (Qt_move (.int .i64 _) rfl) rfl ?_
  refine TL_q (Qt_build_arr (hlist h9).toArray Tryd.underlying26 rfl rfl (by kernel_rfl)) rfl ?_
  refine TL_q (Qt_build [(0, (.int .i64 _)), (1, (.int .i64 _)), (4, (.int .i64 _)), (5, (.agg _))] rfl (by kernel_rfl)) rfl ?_
  refine TL_e rfl (Ef_call (sealF_c (sa := x15.1.a) (sc := x15.1.c) (ls := x15.1.ls) (rt := ⟨none, 0, 0⟩) (keyT_small hk15).2 (m := ⟨2, k, 0, 0, 1, h9, ⟨none, 0, []⟩, ⟨none, 0, []⟩⟩) (MSI k) (rb := RdB.nil') (rc := RdC.vals0) (re := RdE.nil) rfl (smallI k)) rfl (fun x19 => ?_))
  rw [hk15]
  refine TL_q (Qt_move (.tuple _) rfl) rfl ?_
  refine TL_q (Qt_extract rfl) rfl ?_
  refine TL_q (Qt_extract rfl) rfl ?_
  refine TL_q (Qt_assign (.slice _ _ _) rfl) rfl ?_
  refine TL_q (Qt_assign (.int .i64 _) rfl) rfl ?_
  refine TL_nil ?_
  refine X_then ?_
  refine T_seq ?_
  refine T_region ?_
  refine TL_q (Qt_move (.pointer _) rfl) rfl ?_
  refine TL_q (Qt_move (.slice _ _ _) rfl) rfl ?_
  refine TL_conv (fun w hw => (Subs.st inferInstance w hw : St w0 (blk x10.1.1 (.cells (InstV.mk (KeysV.mk ⟨x10.2.1.a, x10.2.1.c, x10.2.1.ls⟩ ⟨none, 0, 0⟩) (ViewV.mk 0 ((15 : Nat) : Int)) 1 (some x10.1.2.1) (some x10.1.2.2.1) (some x10.1.2.2.2)).cells 91 (0, 0)) :: blk x10.1.2.2.1 (mapO encB BS.val st.ps st.c) :: blk x10.1.2.2.2 (mapO encT encM st.ts st.d) :: eachA st.fp ((st.ps : PMI).map (·.v)) :: row (.slice x19.a (sealK (keyT 16) (MSI k)).1.length x19.c) 5 1 (bytesV (sealK (keyT 16) (MSI k)).1) :: dat x10.2.2 (Deep.leads (PS.mk x10.2.1.a x10.2.1.c x10.2.1.ls)) :: H) w)) ?_
  refine TL_e rfl (Ef_call (take_c (p := x10.1.1) (r3 := x10.1.2.1) (r4 := x10.1.2.2.1) (r5 := x10.1.2.2.2) (sa := x10.2.1.a) (sc := x10.2.1.c) (ls := x10.2.1.ls) (rt := ⟨none, 0, 0⟩) (num := 0) (mk := 15) (slot := 1) (V := votesW k) (ps := st.ps) (c := st.c) (ts := st.ts) (d := st.d) (fp := st.fp) (l := (sealK (keyT 16) (MSI k)).1) hI (by decide) (fun x hx => (keyT_small (h10.trans hk8)).2 x hx) (by have := sealI_le k; omega)) rfl (fun x24 => ?_))
  rw [h10, hk8, takeW k (by omega)]
  refine TL_pure (fun h24 => ?_)
  refine TL_q (Qt_neq rfl rfl) rfl ?_
  refine TL_nil ?_
  refine X_then ?_
  refine T_cond_false rfl (by first | rfl | decide) ?_
  refine T_skip ?_
  refine X_block ?_
  refine X_then ?_
  refine T_region ?_
  first
   | refine TL_q (Qt_add rfl rfl (by omega) (by omega)) rfl ?_
   | refine TL_q (Qt_addw rfl rfl) rfl ?_
  refine TL_q (Qt_move (.int .i64 _) rfl) rfl ?_
  refine TL_nil ?_
  apply X_loop
  case ha => exact (by repeat (first | with_reducible exact agree_refl | refine agree_upd rfl ?_ | refine agree_mix rfl ?_ | refine agree_setAll rfl ?_))
  case hI => exact ⟨k + 1, x24, rfl, rfl, by omega, h24⟩
  case hm => exact by show 3 - (k + 1 : Int).toNat < 3 - (k : Int).toNat; omega
  case hH => exact (Subs.st inferInstance)
 ·
  have p12 := h12
  try simp only [decide_eq_true_eq, decide_eq_false_iff_not, Bool.not_eq_true', Bool.not_eq_false', Option.isNone_iff_eq_none, ne_eq, Decidable.not_not, Int.not_lt, Int.not_le] at p12
  have hk3 : k = 3 := by omega
  subst hk3
  refine T_exit ?_
  refine X_then_exit ?_
  refine X_loop_exit ?_
  refine X_block_exit ?_
  refine X_then ?_
  refine T_seq ?_
  refine T_region ?_
  refine TL_q (Qt_move (.pointer _) rfl) rfl ?_
  refine TL_conv (fun w hw => (Subs.st inferInstance w hw : St w0 (blk x10.1.1 (.cells (InstV.mk (KeysV.mk ⟨x10.2.1.a, x10.2.1.c, x10.2.1.ls⟩ ⟨none, 0, 0⟩) (ViewV.mk 0 ((15 : Nat) : Int)) 1 (some x10.1.2.1) (some x10.1.2.2.1) (some x10.1.2.2.2)).cells 91 (0, 0)) :: blk x10.1.2.2.1 (mapO encB BS.val st.ps st.c) :: blk x10.1.2.2.2 (mapO encT encM st.ts st.d) :: eachA st.fp ((st.ps : PMI).map (·.v)) :: dat x10.2.2 (Deep.leads (PS.mk x10.2.1.a x10.2.1.c x10.2.1.ls)) :: H) w)) ?_
  refine TL_e rfl (Ef_call (iwritten_c (p := x10.1.1) (r3 := x10.1.2.1) (r4 := x10.1.2.2.1) (r5 := x10.1.2.2.2) (sa := x10.2.1.a) (sc := x10.2.1.c) (ls := x10.2.1.ls) (rt := ⟨none, 0, 0⟩) (num := 0) (mk := 15) (slot := 1) (V := votesW 3) (ps := st.ps) (c := st.c) (ts := st.ts) (d := st.d) (fp := st.fp) hI (by decide) (reg := 0)) rfl (fun x29 => ?_))
  refine TL_pure (fun h29 => ?_)
  obtain ⟨hy, hL⟩ := QrW h29
  rw [hy]
  have hL3 : x29.2.1.length = 3 := by simpa using hL
  refine TL_q (Qt_move (.tuple _) rfl) rfl ?_
  refine TL_q (Qt_extract rfl) rfl ?_
  refine TL_q (Qt_extract rfl) rfl ?_
  refine TL_q (Qt_extract rfl) rfl ?_
  refine TL_e rfl (Ef_allocN (fun b5 => ?_))
  refine TL_n (Ef_storeN rfl rfl (?_))
  refine TL_q (Qt_assign (.slice _ _ _) rfl) rfl ?_
  refine TL_q (Qt_assign (.bool _) rfl) rfl ?_
  refine TL_nil ?_
  refine X_then ?_
  refine T_seq ?_
  refine T_region ?_
  refine TL_q (Qt_move (.bool _) rfl) rfl ?_
  refine TL_q (Qt_move (.bool _) rfl) rfl ?_
  refine TL_split 34 rfl (fun h34 => ?_) (fun h34 => ?_)
  ·
   have p34 := h34
   try simp only [decide_eq_true_eq, decide_eq_false_iff_not, Bool.not_eq_true', Bool.not_eq_false', Option.isNone_iff_eq_none, ne_eq, Decidable.not_not, Int.not_lt, Int.not_le] at p34
   refine TL_take rfl rfl h34 ?_
   refine TL_q (Qt_loadN rfl rfl) rfl ?_
   refine TL_take rfl rfl h34 ?_
   refine TL_q (Qt_build_arr (hlist h9).toArray Tryd.underlying26 rfl rfl (by kernel_rfl)) rfl ?_
   refine TL_take rfl rfl h34 ?_
   refine TL_q (Qt_agg_eql rfl rfl (by kernel_rfl)) rfl ?_
   refine TL_q (Qt_pick_t (.bool _) rfl h34 rfl) rfl ?_
   refine TL_q (Qt_move (.bool _) rfl) rfl ?_
   refine TL_split 39 rfl (fun h39 => ?_) (fun h39 => ?_)
   ·
    have p39 := h39
    try simp only [decide_eq_true_eq, decide_eq_false_iff_not, Bool.not_eq_true', Bool.not_eq_false', Option.isNone_iff_eq_none, ne_eq, Decidable.not_not, Int.not_lt, Int.not_le] at p39
    refine TL_take rfl rfl h39 ?_
    refine TL_q (Qt_move (.slice _ _ _) rfl) rfl ?_
    refine TL_take rfl rfl h39 ?_
    refine TL_q (Qt_len_slice rfl Tryd.underlying28) rfl ?_
    refine TL_take rfl rfl h39 ?_
    refine TL_q (Qt_eql rfl rfl) rfl ?_
    refine TL_q (Qt_pick_t (.bool _) rfl h39 rfl) rfl ?_
    refine TL_q (Qt_assign (.bool _) rfl) rfl ?_
    refine TL_nil ?_
    refine X_then ?_
    refine T_ret ?_
    exact X_ret () [.bool true] Tryd.results23 ⟨by refine congrArg Value.bool ?_; simp [hL3], trivial⟩ rfl (Subs.st inferInstance)
   ·
    have p39 := h39
    try simp only [decide_eq_true_eq, decide_eq_false_iff_not, Bool.not_eq_true', Bool.not_eq_false', Option.isNone_iff_eq_none, ne_eq, Decidable.not_not, Int.not_lt, Int.not_le] at p39
    exact absurd h39 (by simp)
  ·
   have p34 := h34
   try simp only [decide_eq_true_eq, decide_eq_false_iff_not, Bool.not_eq_true', Bool.not_eq_false', Option.isNone_iff_eq_none, ne_eq, Decidable.not_not, Int.not_lt, Int.not_le] at p34
   exact absurd h34 (by decide)
end Go.Proofs.YtgjkgdjjolnhdaaDoor
