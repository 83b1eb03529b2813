/- Walks of package client: New, Ask. -/
import Derived.Test.YtpdpapcmfnhgpaaJaR
import Derived.Test.YtpdpapcmfnhgpaaOoR
namespace Go.Proofs.Ytpdpapcmfnhgpaa
section
open Go.RowKit Go.Sx
set_option maxRecDepth 100000
set_option linter.unusedSimpArgs false
set_option linter.unusedVariables false

set_option maxHeartbeats 1000000 in
theorem cnew_c {w0 : World} {H : List SA} {sa : Option Addr} {sc : Nat} {ls : List BS} {rt : Sl} [rk : RdC w0 H (.slice sa ls.length sc) 1 (ls.map BS.val)] [rke : RdE w0 H ls] (hkl : ∀ x ∈ ls, x.l.length ≤ 4294967000) (hn : ls.length ≤ 1000) {seed : Vector UInt8 32} {id need : Int} (hid : 0 ≤ id ∧ id < 6) (hne : 1 ≤ need) :
 CT Try.prog w0 (H) 28 [.agg (KeysV.mk ⟨sa, sc, ls⟩ rt).cells, .int .i64 id, .agg (hlist seed).toArray, .int .i64 need] (α := (Nat × Nat) × (PS × List Nat)) (fun y => .pointer (some ⟨y.1.1, 0, none⟩)) (fun y => pu (y.2.1.ls.map BS.l = ls.map BS.l) :: blk y.1.1 (.cells (ClientV.mk (KeysV.mk ⟨y.2.1.a, y.2.1.c, y.2.1.ls⟩ ⟨none, 0, 0⟩) id seed need ⟨none, (([] : List ReqV)).length, 0⟩ ⟨none, (([] : List ReplyV)).length, 0⟩ false ((0 : Nat) : Int) (some y.1.2)).cells 141 (0, 0)) :: row (.slice none (([] : List ReqV)).length 0) 85 7 ((([] : List ReqV)).flatMap ReqV.list) :: dat [] ⟨(([] : List ReqV)).map ReqV.sig, [], []⟩ :: row (.slice none (([] : List ReplyV)).length 0) 31 5 ((([] : List ReplyV)).flatMap ReplyV.list) :: blk y.1.2 (mapO encR encW [] 0) :: dat y.2.2 (Deep.leads (PS.mk y.2.1.a y.2.1.c y.2.1.ls)) :: H) := by
 refine CT_intro Try.func28 rfl Try.ntmps28 rfl ?_
 refine T_seq ?_
 refine T_region ?_
 refine TL_e rfl (Ef_boxN rfl (fun b4 => ?_))
 refine TL_e rfl (Ef_boxN rfl (fun b6 => ?_))
 refine TL_q (Qt_assign (.pointer _) rfl) rfl ?_
 refine TL_nil ?_
 refine X_then ?_
 refine T_seq ?_
 refine T_seq ?_
 refine T_region ?_
 refine TL_q (Qt_move (.int .i64 _) rfl) rfl ?_
 refine TL_q (Qt_lss rfl rfl) rfl ?_
 refine TL_q (Qt_move (.bool _) rfl) rfl ?_
 refine TL_split 14 rfl (fun h14 => ?_) (fun h14 => ?_)
 ·
  have p14 := h14
  try simp only [decide_eq_true_eq, decide_eq_false_iff_not, Bool.not_eq_true', Bool.not_eq_false', Option.isNone_iff_eq_none, ne_eq, Decidable.not_not, Int.not_lt, Int.not_le] at p14
  exact absurd h14 (by simp; omega)
 ·
  have p14 := h14
  try simp only [decide_eq_true_eq, decide_eq_false_iff_not, Bool.not_eq_true', Bool.not_eq_false', Option.isNone_iff_eq_none, ne_eq, Decidable.not_not, Int.not_lt, Int.not_le] at p14
  refine TL_take rfl rfl h14 ?_
  refine TL_q (Qt_move (.int .i64 _) rfl) rfl ?_
  refine TL_take rfl rfl h14 ?_
  refine TL_q (Qt_geq rfl rfl) rfl ?_
  refine TL_q (Qt_pick_f (.bool _) rfl h14 rfl) rfl ?_
  refine TL_q (Qt_move (.bool _) rfl) rfl ?_
  refine TL_split 18 rfl (fun h18 => ?_) (fun h18 => ?_)
  ·
   have p18 := h18
   try simp only [decide_eq_true_eq, decide_eq_false_iff_not, Bool.not_eq_true', Bool.not_eq_false', Option.isNone_iff_eq_none, ne_eq, Decidable.not_not, Int.not_lt, Int.not_le] at p18
   exact absurd h18 (by simp; omega)
  ·
   have p18 := h18
   try simp only [decide_eq_true_eq, decide_eq_false_iff_not, Bool.not_eq_true', Bool.not_eq_false', Option.isNone_iff_eq_none, ne_eq, Decidable.not_not, Int.not_lt, Int.not_le] at p18
   refine TL_take rfl rfl h18 ?_
   refine TL_q (Qt_move (.int .i64 _) rfl) rfl ?_
   refine TL_take rfl rfl h18 ?_
   refine TL_q (Qt_lss rfl rfl) rfl ?_
   refine TL_q (Qt_pick_f (.bool _) rfl h18 rfl) rfl ?_
   refine TL_nil ?_
   refine X_then ?_
   refine T_cond rfl (fun h21 => ?_) (fun h21 => ?_)
   ·
    have p21 := h21
    try simp only [decide_eq_true_eq, decide_eq_false_iff_not, Bool.not_eq_true', Bool.not_eq_false', Option.isNone_iff_eq_none, ne_eq, Decidable.not_not, Int.not_lt, Int.not_le] at p21
    exact absurd h21 (by simp; omega)
   ·
    have p21 := h21
    try simp only [decide_eq_true_eq, decide_eq_false_iff_not, Bool.not_eq_true', Bool.not_eq_false', Option.isNone_iff_eq_none, ne_eq, Decidable.not_not, Int.not_lt, Int.not_le] at p21
    refine T_skip ?_
    refine X_then ?_
    refine T_seq ?_
    refine T_region ?_
    refine TL_e rfl (Ef_allocN (fun b9 => ?_))
    refine TL_nil ?_
    refine X_then ?_
    refine T_seq ?_
    refine T_seq ?_
    refine T_region ?_
    refine TL_q (Qt_fieldAddr 0 rfl rfl) rfl ?_
    refine TL_q (Qt_load1 rfl) rfl ?_
    refine TL_q (Qt_len_slice rfl Try.underlying38) rfl ?_
    refine TL_q (Qt_move (.int .i64 _) rfl) rfl ?_
    refine TL_nil ?_
    refine X_then ?_
    refine T_block ?_
    refine T_loop [11, 25, 26, 27, 28, 29, 30, 31, 32, 33, 34, 35, 36] [25] (fun us H' => ∃ (k : Nat) (a : Option Addr) (cc : Nat) (os : List BS) (fp : List Nat), us = [.int .i64 (k : Int)] ∧ row (.slice a (os).length cc) 37 1 ((os).map BS.val) :: eachA fp os :: blk b9 (.cells (KeysV.mk ⟨a, cc, os⟩ ⟨none, 0, 0⟩).cells 62 (0, 0)) :: blk b4 (.cells (KeysV.mk ⟨sa, sc, ls⟩ rt).cells 62 (0, 0)) :: blk b6 (.cells (hlist seed).toArray 36 (0, 0)) :: H = H' ∧ k ≤ ls.length ∧ (os.map BS.l = (ls.map BS.l).take k) ∧ (os.length = k)) (fun us => match us with | .int _ i :: _ => ls.length - i.toNat | _ => 0) ⟨0, none, 0, [], [], rfl, rfl, by omega, rfl, rfl⟩ (fun w hw => by
     have h0 : St w0 (blk b9 (.cells (KeysV.mk ⟨none, 0, []⟩ ⟨none, 0, 0⟩).cells 62 (0, 0)) :: blk b4 (.cells (KeysV.mk ⟨sa, sc, ls⟩ rt).cells 62 (0, 0)) :: blk b6 (.cells (hlist seed).toArray 36 (0, 0)) :: H) w := Subs.st inferInstance w hw
     exact (h0.eachNil).addNil 37 1) ?_
    rintro τ0 _ _  ⟨k, a, cc, os, fp, rfl, rfl, hk0, hos, hol⟩ _
    refine T_seq ?_
    refine T_region ?_
    refine TL_q (Qt_lss rfl rfl) rfl ?_
    refine TL_nil ?_
    refine X_then ?_
    refine T_seq ?_
    refine T_cond rfl (fun h26 => ?_) (fun h26 => ?_)
    ·
     have p26 := h26
     try simp only [decide_eq_true_eq, decide_eq_false_iff_not, Bool.not_eq_true', Bool.not_eq_false', Option.isNone_iff_eq_none, ne_eq, Decidable.not_not, Int.not_lt, Int.not_le] at p26
     have hk : k < ls.length := by omega
     refine T_skip ?_
     refine X_then ?_
     refine T_seq ?_
     refine T_block ?_
     refine T_seq ?_
     refine T_region ?_
     refine TL_q (Qt_indexR rfl rfl (by omega) (by simp; omega)) rfl ?_
     refine TL_q (Qt_loadR (.slice _ _ _) rfl (vals_get _ _ hk)) rfl ?_
     refine TL_q (Qt_assign (.slice _ _ _) rfl) rfl ?_
     refine TL_nil ?_
     refine X_then ?_
     refine T_drawF H (by kernel_rfl) (Subs.st inferInstance) ?_
     refine DLF_q (i := 0) (by kernel_rfl) rfl (by kernel_rfl) (by kernel_rfl) (Qt_fieldAddr 0 rfl rfl) rfl ?_
     refine DLF_q (i := 2) (by kernel_rfl) rfl (by kernel_rfl) (by kernel_rfl) (Qt_move (.slice _ _ _) rfl) rfl ?_
     refine DLF_2 (i := 1) (j := 3) (by kernel_rfl) ?_ ?_
     ·
      refine DLS_e rfl rfl (Ef_of_Qt (Qt_load1 rfl) ⟨(Subs.st inferInstance), ?_⟩)
      refine DLF_1 (i := 3) (by kernel_rfl) ?_
      have : RdB w0 H (.slice ls[k].a ls[k].l.length ls[k].c) ls[k].l := rke.get (List.getElem_mem hk)
      refine DLS_e rfl rfl (Ef_call (clone_c (l := ls[k].l) (by have := hkl _ (List.getElem_mem hk); omega)) rfl (fun x32 => ⟨(Subs.st inferInstance), ?_⟩))
      refine DLF_1 (i := 4) (by kernel_rfl) ?_
      refine DLS_e rfl rfl (Ef_slice1 (v := .slice _ _ _) rfl (fun a33 c33 => ⟨(Subs.st inferInstance), ?_⟩))
      refine DLF_1 (i := 5) (by kernel_rfl) ?_
      refine DLS_e rfl rfl (Ef_appendP (sv := .slice _ _ _) (xv := .slice _ _ _) ⟨x32.a, x32.c, ls[k].l⟩ rfl rfl (by omega) rfl (fun a34 c34 => ⟨(Subs.st inferInstance), ?_⟩))
      refine DLF_q (i := 6) (by kernel_rfl) rfl (by kernel_rfl) (by kernel_rfl) (Qt_fieldAddr 0 rfl rfl) rfl ?_
      refine DLF_1 (i := 7) (by kernel_rfl) ?_
      refine DLS_n rfl (Ef_store1 (.slice _ _ _) rfl rfl (⟨(Subs.st inferInstance), ?_⟩))
      refine DLF_nil (by kernel_rfl) ?_
      refine X_block ?_
      refine X_then ?_
      refine T_region ?_
      first
       | refine TL_q (Qt_add rfl rfl (by omega) (by omega)) rfl ?_
       | refine TL_q (Qt_addw rfl rfl) rfl ?_
      refine TL_q (Qt_move (.int .i64 _) rfl) rfl ?_
      refine TL_nil ?_
      apply X_loop
      case ha => exact (by repeat (first | with_reducible exact agree_refl | refine agree_upd rfl ?_ | refine agree_mix rfl ?_ | refine agree_setAll rfl ?_))
      case hI => exact ⟨k + 1, a34, c34, os ++ [⟨x32.a, x32.c, ls[k].l⟩], rowFp (.slice x32.a ls[k].l.length x32.c) ++ fp, rfl, rfl, by omega, by rw [List.map_append, hos, take_get _ _ (by simpa using hk)]; simp, by simp [hol]⟩
      case hm => exact by show ls.length - (k + 1 : Int).toNat < ls.length - (k : Int).toNat; omega
      case hH => exact fun w hw => eachUnder (Subs.st inferInstance w hw : St w0 (row (.slice a34 (os ++ [(⟨x32.a, x32.c, ls[k].l⟩ : BS)]).length c34) 37 1 ((os ++ [(⟨x32.a, x32.c, ls[k].l⟩ : BS)]).map BS.val) :: row (BS.val ⟨x32.a, x32.c, ls[k].l⟩) 5 1 (bytesV (BS.l ⟨x32.a, x32.c, ls[k].l⟩)) :: eachA fp os :: blk b9 (.cells (KeysV.mk ⟨a34, c34, os ++ [⟨x32.a, x32.c, ls[k].l⟩]⟩ ⟨none, 0, 0⟩).cells 62 (0, 0)) :: blk b4 (.cells (KeysV.mk ⟨sa, sc, ls⟩ rt).cells 62 (0, 0)) :: blk b6 (.cells (hlist seed).toArray 36 (0, 0)) :: H) w)
     ·
      have : RdB w0 H (.slice ls[k].a ls[k].l.length ls[k].c) ls[k].l := rke.get (List.getElem_mem hk)
      refine DLS_e rfl rfl (Ef_call (clone_c (l := ls[k].l) (by have := hkl _ (List.getElem_mem hk); omega)) rfl (fun x32 => ⟨(Subs.st inferInstance), ?_⟩))
      refine DLF_2 (i := 1) (j := 4) (by kernel_rfl) ?_ ?_
      ·
       refine DLS_e rfl rfl (Ef_of_Qt (Qt_load1 rfl) ⟨(Subs.st inferInstance), ?_⟩)
       refine DLF_1 (i := 4) (by kernel_rfl) ?_
       refine DLS_e rfl rfl (Ef_slice1 (v := .slice _ _ _) rfl (fun a33 c33 => ⟨(Subs.st inferInstance), ?_⟩))
       refine DLF_1 (i := 5) (by kernel_rfl) ?_
       refine DLS_e rfl rfl (Ef_appendP (sv := .slice _ _ _) (xv := .slice _ _ _) ⟨x32.a, x32.c, ls[k].l⟩ rfl rfl (by omega) rfl (fun a34 c34 => ⟨(Subs.st inferInstance), ?_⟩))
       refine DLF_q (i := 6) (by kernel_rfl) rfl (by kernel_rfl) (by kernel_rfl) (Qt_fieldAddr 0 rfl rfl) rfl ?_
       refine DLF_1 (i := 7) (by kernel_rfl) ?_
       refine DLS_n rfl (Ef_store1 (.slice _ _ _) rfl rfl (⟨(Subs.st inferInstance), ?_⟩))
       refine DLF_nil (by kernel_rfl) ?_
       refine X_block ?_
       refine X_then ?_
       refine T_region ?_
       first
        | refine TL_q (Qt_add rfl rfl (by omega) (by omega)) rfl ?_
        | refine TL_q (Qt_addw rfl rfl) rfl ?_
       refine TL_q (Qt_move (.int .i64 _) rfl) rfl ?_
       refine TL_nil ?_
       apply X_loop
       case ha => exact (by repeat (first | with_reducible exact agree_refl | refine agree_upd rfl ?_ | refine agree_mix rfl ?_ | refine agree_setAll rfl ?_))
       case hI => exact ⟨k + 1, a34, c34, os ++ [⟨x32.a, x32.c, ls[k].l⟩], rowFp (.slice x32.a ls[k].l.length x32.c) ++ fp, rfl, rfl, by omega, by rw [List.map_append, hos, take_get _ _ (by simpa using hk)]; simp, by simp [hol]⟩
       case hm => exact by show ls.length - (k + 1 : Int).toNat < ls.length - (k : Int).toNat; omega
       case hH => exact fun w hw => eachUnder (Subs.st inferInstance w hw : St w0 (row (.slice a34 (os ++ [(⟨x32.a, x32.c, ls[k].l⟩ : BS)]).length c34) 37 1 ((os ++ [(⟨x32.a, x32.c, ls[k].l⟩ : BS)]).map BS.val) :: row (BS.val ⟨x32.a, x32.c, ls[k].l⟩) 5 1 (bytesV (BS.l ⟨x32.a, x32.c, ls[k].l⟩)) :: eachA fp os :: blk b9 (.cells (KeysV.mk ⟨a34, c34, os ++ [⟨x32.a, x32.c, ls[k].l⟩]⟩ ⟨none, 0, 0⟩).cells 62 (0, 0)) :: blk b4 (.cells (KeysV.mk ⟨sa, sc, ls⟩ rt).cells 62 (0, 0)) :: blk b6 (.cells (hlist seed).toArray 36 (0, 0)) :: H) w)
      ·
       refine DLS_e rfl rfl (Ef_slice1 (v := .slice _ _ _) rfl (fun a33 c33 => ⟨(Subs.st inferInstance), ?_⟩))
       refine DLF_1 (i := 1) (by kernel_rfl) ?_
       refine DLS_e rfl rfl (Ef_of_Qt (Qt_load1 rfl) ⟨(Subs.st inferInstance), ?_⟩)
       refine DLF_1 (i := 5) (by kernel_rfl) ?_
       refine DLS_e rfl rfl (Ef_appendP (sv := .slice _ _ _) (xv := .slice _ _ _) ⟨x32.a, x32.c, ls[k].l⟩ rfl rfl (by omega) rfl (fun a34 c34 => ⟨(Subs.st inferInstance), ?_⟩))
       refine DLF_q (i := 6) (by kernel_rfl) rfl (by kernel_rfl) (by kernel_rfl) (Qt_fieldAddr 0 rfl rfl) rfl ?_
       refine DLF_1 (i := 7) (by kernel_rfl) ?_
       refine DLS_n rfl (Ef_store1 (.slice _ _ _) rfl rfl (⟨(Subs.st inferInstance), ?_⟩))
       refine DLF_nil (by kernel_rfl) ?_
       refine X_block ?_
       refine X_then ?_
       refine T_region ?_
       first
        | refine TL_q (Qt_add rfl rfl (by omega) (by omega)) rfl ?_
        | refine TL_q (Qt_addw rfl rfl) rfl ?_
       refine TL_q (Qt_move (.int .i64 _) rfl) rfl ?_
       refine TL_nil ?_
       apply X_loop
       case ha => exact (by repeat (first | with_reducible exact agree_refl | refine agree_upd rfl ?_ | refine agree_mix rfl ?_ | refine agree_setAll rfl ?_))
       case hI => exact ⟨k + 1, a34, c34, os ++ [⟨x32.a, x32.c, ls[k].l⟩], rowFp (.slice x32.a ls[k].l.length x32.c) ++ fp, rfl, rfl, by omega, by rw [List.map_append, hos, take_get _ _ (by simpa using hk)]; simp, by simp [hol]⟩
       case hm => exact by show ls.length - (k + 1 : Int).toNat < ls.length - (k : Int).toNat; omega
       case hH => exact fun w hw => eachUnder (Subs.st inferInstance w hw : St w0 (row (.slice a34 (os ++ [(⟨x32.a, x32.c, ls[k].l⟩ : BS)]).length c34) 37 1 ((os ++ [(⟨x32.a, x32.c, ls[k].l⟩ : BS)]).map BS.val) :: row (BS.val ⟨x32.a, x32.c, ls[k].l⟩) 5 1 (bytesV (BS.l ⟨x32.a, x32.c, ls[k].l⟩)) :: eachA fp os :: blk b9 (.cells (KeysV.mk ⟨a34, c34, os ++ [⟨x32.a, x32.c, ls[k].l⟩]⟩ ⟨none, 0, 0⟩).cells 62 (0, 0)) :: blk b4 (.cells (KeysV.mk ⟨sa, sc, ls⟩ rt).cells 62 (0, 0)) :: blk b6 (.cells (hlist seed).toArray 36 (0, 0)) :: H) w)
    ·
     have p26 := h26
     try simp only [decide_eq_true_eq, decide_eq_false_iff_not, Bool.not_eq_true', Bool.not_eq_false', Option.isNone_iff_eq_none, ne_eq, Decidable.not_not, Int.not_lt, Int.not_le] at p26
     have hos : os.map BS.l = ls.map BS.l := by rw [hos]; exact List.take_of_length_le (by simp; omega)
     refine T_exit ?_
     refine X_then_exit ?_
     refine X_loop_exit ?_
     refine X_block_exit ?_
     refine X_then ?_
     refine T_seq ?_
     refine T_region ?_
     refine TL_q (Qt_loadN rfl rfl) rfl ?_
     refine TL_q (Qt_move (.int .i64 _) rfl) rfl ?_
     refine TL_q (Qt_loadN rfl rfl) rfl ?_
     refine TL_q (Qt_move (.int .i64 _) rfl) rfl ?_
     refine TL_e rfl (Ef_makeMap encR encW (fun r41 => ?_))
     refine TL_q (Qt_build [(0, (.agg _)), (1, (.int .i64 _)), (2, (.agg _)), (3, (.int .i64 _)), (8, (.map _))] rfl (by kernel_rfl)) rfl ?_
     refine TL_e rfl (Ef_boxN rfl (fun b43 => ?_))
     refine TL_q (Qt_assign (.pointer _) rfl) rfl ?_
     refine TL_nil ?_
     refine X_then ?_
     refine T_ret ?_
     refine X_conv (fun w hw => St.datPS (a := a) (c := cc) (ls := os) (fp := fp) (e := 37) (H := blk b43 (.cells (ClientV.mk (KeysV.mk ⟨a, cc, os⟩ ⟨none, 0, 0⟩) id seed need ⟨none, (([] : List ReqV)).length, 0⟩ ⟨none, (([] : List ReplyV)).length, 0⟩ false ((0 : Nat) : Int) (some r41)).cells 141 (0, 0)) :: blk r41 (mapO encR encW [] 0) :: H) (Subs.st inferInstance w hw)) (fun fp2 => ?_)
     exact X_ret ((b43, r41), (⟨a, cc, os⟩, fp2)) [_] Try.results28 ⟨rfl, trivial⟩ rfl (fun w hw => by
      have h1 : St w0 (blk b43 (.cells (ClientV.mk (KeysV.mk ⟨a, cc, os⟩ ⟨none, 0, 0⟩) id seed need ⟨none, (([] : List ReqV)).length, 0⟩ ⟨none, (([] : List ReplyV)).length, 0⟩ false ((0 : Nat) : Int) (some r41)).cells 141 (0, 0)) :: blk r41 (mapO encR encW [] 0) :: dat fp2 (Deep.leads (PS.mk a cc os)) :: H) w := Subs.st inferInstance w hw
      have h2 : St w0 (dat [] ⟨([] : List ReqV).map ReqV.sig, [], []⟩ :: row (.slice none ([] : List ReplyV).length 0) 31 5 (([] : List ReplyV).flatMap ReplyV.list) :: row (.slice none ([] : List ReqV).length 0) 85 7 (([] : List ReqV).flatMap ReqV.list) :: blk b43 (.cells (ClientV.mk (KeysV.mk ⟨a, cc, os⟩ ⟨none, 0, 0⟩) id seed need ⟨none, (([] : List ReqV)).length, 0⟩ ⟨none, (([] : List ReplyV)).length, 0⟩ false ((0 : Nat) : Int) (some r41)).cells 141 (0, 0)) :: blk r41 (mapO encR encW [] 0) :: dat fp2 (Deep.leads (PS.mk a cc os)) :: H) w := ((h1.addNil 85 7).addNil 31 5).datNil
      exact (Subs.st inferInstance w h2 : St w0 (blk b43 (.cells (ClientV.mk (KeysV.mk ⟨a, cc, os⟩ ⟨none, 0, 0⟩) id seed need ⟨none, (([] : List ReqV)).length, 0⟩ ⟨none, (([] : List ReplyV)).length, 0⟩ false ((0 : Nat) : Int) (some r41)).cells 141 (0, 0)) :: row (.slice none (([] : List ReqV)).length 0) 85 7 ((([] : List ReqV)).flatMap ReqV.list) :: dat [] ⟨(([] : List ReqV)).map ReqV.sig, [], []⟩ :: row (.slice none (([] : List ReplyV)).length 0) 31 5 ((([] : List ReplyV)).flatMap ReplyV.list) :: blk r41 (mapO encR encW [] 0) :: dat fp2 (Deep.leads (PS.mk a cc os)) :: H) w).addPure hos)
set_option maxHeartbeats 1000000 in
theorem ask1_c {w0 : World} {H : List SA} {p m : Nat} {sa : Option Addr} {sc : Nat} {ls : List BS} {rt : Sl} {seed : Vector UInt8 32} {need : Int} {aa : Option Addr} {ac : Nat} {asked : List ReqV} {fs : List Nat} {ga : Option Addr} {gc : Nat} {got : List ReplyV} {who : Nat} {es : List (Ent ReplyV Nat)} {c : Nat} (hn : asked.length < 8) (hsg : ∀ r ∈ asked, r.sig.l.length ≤ 1000) :
 CT Try.prog w0 (blk p (.cells (ClientV.mk (KeysV.mk ⟨sa, sc, ls⟩ rt) 1 seed need ⟨aa, (asked).length, ac⟩ ⟨ga, (got).length, gc⟩ false ((who : Nat) : Int) (some m)).cells 141 (0, 0)) :: row (.slice aa (asked).length ac) 85 7 ((asked).flatMap ReqV.list) :: dat fs ⟨(asked).map ReqV.sig, [], []⟩ :: row (.slice ga (got).length gc) 31 5 ((got).flatMap ReplyV.list) :: blk m (mapO encR encW es c) :: H) 25 [.pointer (some ⟨p, 0, none⟩), .agg (OpV.mk 1 0 0 0).cells] (α := Sl × AC × List ReqV × List Nat) (fun y => .tuple #[.slice y.1.a y.1.n y.1.c, .int .i64 0]) (fun y => pu (y.2.2.1.length = asked.length + 1 ∧ ∀ r ∈ y.2.2.1, r.sig.l.length ≤ 1000) :: blk p (.cells (ClientV.mk (KeysV.mk ⟨sa, sc, ls⟩ rt) 1 seed need ⟨y.2.1.a, (y.2.2.1).length, y.2.1.c⟩ ⟨ga, (got).length, gc⟩ true ((0 : Nat) : Int) (some m)).cells 141 (0, 0)) :: row (.slice y.2.1.a (y.2.2.1).length y.2.1.c) 85 7 ((y.2.2.1).flatMap ReqV.list) :: dat y.2.2.2 ⟨(y.2.2.1).map ReqV.sig, [], []⟩ :: row (.slice ga (got).length gc) 31 5 ((got).flatMap ReplyV.list) :: blk m (mapO encR encW ([] : List (Ent ReplyV Nat)) c) :: H) := by
 refine CT_intro Try.func25 rfl Try.ntmps25 rfl ?_
 refine T_seq ?_
 refine T_region ?_
 refine TL_e rfl (Ef_boxN rfl (fun b3 => ?_))
 refine TL_q (Qt_assign (.slice _ _ _) rfl) rfl ?_
 refine TL_q (Qt_assign (.int .i64 _) rfl) rfl ?_
 refine TL_nil ?_
 refine X_then ?_
 refine T_seq ?_
 refine T_block ?_
 refine T_seq ?_
 refine T_region ?_
 refine TL_q (Qt_move (.pointer _) rfl) rfl ?_
 refine TL_q (Qt_ptr_nil rfl rfl Try.underlying67) rfl ?_
 refine TL_q (Qt_assign (.bool _) rfl) rfl ?_
 refine TL_nil ?_
 refine X_then ?_
 refine T_cond_false rfl (by first | rfl | decide) ?_
 refine T_seq ?_
 refine T_draw (blk p (.cells (ClientV.mk (KeysV.mk ⟨sa, sc, ls⟩ rt) 1 seed need ⟨aa, (asked).length, ac⟩ ⟨ga, (got).length, gc⟩ false ((who : Nat) : Int) (some m)).cells 141 (0, 0)) :: blk b3 (.cells (OpV.mk 1 0 0 0).cells 66 (0, 0)) :: H) [(0, true), (1, true), (2, true), (3, true), (4, true), (5, false), (6, true), (7, true)] (by kernel_rfl) (by kernel_rfl) rfl (by kernel_rfl) (Subs.st inferInstance) (fun hns0 => ?_)
 refine DL_q hns0 rfl (Qt_move (.pointer _) rfl) rfl ?_
 refine DL_q hns0 rfl (Qt_nilCheck rfl) rfl ?_
 refine DL_q hns0 rfl (Qt_fieldAddr 2 rfl rfl) rfl ?_
 refine DL_q hns0 rfl (Qt_load1 rfl) rfl ?_
 refine DL_q hns0 rfl (Qt_loadN rfl rfl) rfl ?_
 refine DL_e rfl rfl (Ef_call (right1_c) rfl (fun x18 => ⟨(Subs.st inferInstance), ?_⟩))
 refine DL_q hns0 rfl (Qt_not rfl) rfl ?_
 refine DL_q hns0 rfl (Qt_assign (.bool _) rfl) rfl ?_
 refine DL_nil ?_
 refine X_then ?_
 refine T_cond_false rfl (by first | rfl | decide) ?_
 refine T_seq ?_
 refine T_region ?_
 refine TL_q (Qt_move (.pointer _) rfl) rfl ?_
 refine TL_q (Qt_nilCheck rfl) rfl ?_
 refine TL_q (Qt_fieldAddr 38 rfl rfl) rfl ?_
 refine TL_q (Qt_load1 rfl) rfl ?_
 refine TL_q (Qt_assign (.bool _) rfl) rfl ?_
 refine TL_nil ?_
 refine X_then ?_
 refine T_cond_false rfl (by first | rfl | decide) ?_
 refine T_seq ?_
 refine T_region ?_
 refine TL_q (Qt_move (.pointer _) rfl) rfl ?_
 refine TL_q (Qt_nilCheck rfl) rfl ?_
 refine TL_q (Qt_fieldAddr 36 rfl rfl) rfl ?_
 refine TL_q (Qt_load1 rfl) rfl ?_
 refine TL_q (Qt_len_slice rfl Try.underlying75) rfl ?_
 refine TL_q (Qt_geq rfl rfl) rfl ?_
 refine TL_q (Qt_assign (.bool _) rfl) rfl ?_
 refine TL_nil ?_
 refine X_then ?_
 refine T_cond rfl (fun h25 => ?_) (fun h25 => ?_)
 ·
  have p25 := h25
  try simp only [decide_eq_true_eq, decide_eq_false_iff_not, Bool.not_eq_true', Bool.not_eq_false', Option.isNone_iff_eq_none, ne_eq, Decidable.not_not, Int.not_lt, Int.not_le] at p25
  exact absurd h25 (by simp; omega)
 ·
  have p25 := h25
  try simp only [decide_eq_true_eq, decide_eq_false_iff_not, Bool.not_eq_true', Bool.not_eq_false', Option.isNone_iff_eq_none, ne_eq, Decidable.not_not, Int.not_lt, Int.not_le] at p25
  refine T_skip ?_
  refine X_block ?_
  refine X_then ?_
  refine T_seq ?_
  refine T_draw (blk p (.cells (ClientV.mk (KeysV.mk ⟨sa, sc, ls⟩ rt) 1 seed need ⟨aa, (asked).length, ac⟩ ⟨ga, (got).length, gc⟩ false ((who : Nat) : Int) (some m)).cells 141 (0, 0)) :: blk b3 (.cells (OpV.mk 1 0 0 0).cells 66 (0, 0)) :: H) [(0, true), (1, true), (2, true), (3, true), (4, true), (5, true), (6, true), (7, true), (8, true), (9, true), (10, true), (11, true), (12, false), (13, false)] (by kernel_rfl) (by kernel_rfl) rfl (by kernel_rfl) (Subs.st inferInstance) (fun hns1 => ?_)
  refine DL_q hns1 rfl (Qt_move (.pointer _) rfl) rfl ?_
  refine DL_q hns1 rfl (Qt_nilCheck rfl) rfl ?_
  refine DL_q hns1 rfl (Qt_fieldAddr 2 rfl rfl) rfl ?_
  refine DL_q hns1 rfl (Qt_load1 rfl) rfl ?_
  refine DL_q hns1 rfl (Qt_move (.pointer _) rfl) rfl ?_
  refine DL_q hns1 rfl (Qt_nilCheck rfl) rfl ?_
  refine DL_q hns1 rfl (Qt_fieldAddr 36 rfl rfl) rfl ?_
  refine DL_q hns1 rfl (Qt_load1 rfl) rfl ?_
  refine DL_q hns1 rfl (Qt_len_slice rfl Try.underlying75) rfl ?_
  first
   | refine DL_q hns1 rfl (Qt_add rfl rfl (by omega) (by omega)) rfl ?_
   | refine DL_q hns1 rfl (Qt_addw rfl rfl) rfl ?_
  rw [show (asked.length : Int) + 1 = ((asked.length + 1 : Nat) : Int) from rfl]
  refine DL_q hns1 rfl (Qt_loadN rfl rfl) rfl ?_
  refine DL_q hns1 rfl (Qt_build [(0, (.int .i64 _)), (1, (.int .i64 _)), (2, (.agg _))] rfl (by kernel_rfl)) rfl ?_
  refine DL_e rfl rfl (Ef_allocN (fun b6 => ⟨(Subs.st inferInstance), ?_⟩))
  refine DL_n rfl (Ef_storeN rfl rfl (⟨(Subs.st inferInstance), ?_⟩))
  refine DL_nil ?_
  refine X_then ?_
  refine T_seq ?_
  refine T_draw (blk p (.cells (ClientV.mk (KeysV.mk ⟨sa, sc, ls⟩ rt) 1 seed need ⟨aa, (asked).length, ac⟩ ⟨ga, (got).length, gc⟩ false ((who : Nat) : Int) (some m)).cells 141 (0, 0)) :: blk b6 (.cells (ReqV.mk 1 ((asked.length + 1 : Nat) : Int) (OpV.mk 1 0 0 0) ⟨none, 0, []⟩).cells 85 (0, 0)) :: H) [(0, true), (1, true), (2, true), (3, true), (4, true), (5, true), (6, true), (7, true), (8, false), (9, false), (10, true), (11, true), (12, true), (13, true), (14, true)] (by kernel_rfl) (by kernel_rfl) rfl (by kernel_rfl) (Subs.st inferInstance) (fun hns2 => ?_)
  refine DL_q hns2 rfl (Qt_move (.pointer _) rfl) rfl ?_
  refine DL_q hns2 rfl (Qt_nilCheck rfl) rfl ?_
  refine DL_q hns2 rfl (Qt_fieldAddr 3 rfl rfl) rfl ?_
  refine DL_q hns2 rfl (Qt_loadN rfl rfl) rfl ?_
  refine DL_q hns2 rfl (Qt_fieldAddr 1 rfl rfl) rfl ?_
  refine DL_q hns2 rfl (Qt_load1 rfl) rfl ?_
  first
   | refine DL_q hns2 rfl (Qt_sub rfl rfl (by omega) (by omega)) rfl ?_
   | refine DL_q hns2 rfl (Qt_subw rfl rfl) rfl ?_
  rw [show ((asked.length + 1 : Nat) : Int) - 1 = (asked.length : Int) from by omega]
  refine DL_q hns2 rfl (Qt_loadN rfl rfl) rfl ?_
  refine DL_e rfl rfl (Ef_call (text1_c (n := asked.length + 1) (sg := ⟨none, 0, []⟩) (by omega) (by omega) (by simp)) rfl (fun x53 => ⟨(Subs.st inferInstance), ?_⟩))
  refine DL_pure (fun h53 => ?_)
  refine DL_e rfl rfl (Ef_call (sign_c (seed := seed) (n := asked.length) hn (tl := x53.2) (by omega)) rfl (fun x54 => ⟨(Subs.st inferInstance), ?_⟩))
  refine DL_pure (fun h54 => ?_)
  refine DL_q hns2 rfl (Qt_move (.tuple _) rfl) rfl ?_
  refine DL_q hns2 rfl (Qt_extract rfl) rfl ?_
  refine DL_q hns2 rfl (Qt_extract rfl) rfl ?_
  refine DL_q hns2 rfl (Qt_assign (.slice _ _ _) rfl) rfl ?_
  refine DL_q hns2 rfl (Qt_assign (.int .i64 _) rfl) rfl ?_
  refine DL_nil ?_
  refine X_then ?_
  refine T_seq ?_
  refine T_seq ?_
  refine T_region ?_
  refine TL_q (Qt_move (.int .i64 _) rfl) rfl ?_
  refine TL_q (Qt_neq rfl rfl) rfl ?_
  refine TL_nil ?_
  refine X_then ?_
  refine T_cond_false rfl (by first | rfl | decide) ?_
  refine T_skip ?_
  refine X_then ?_
  refine T_seq ?_
  refine T_region ?_
  refine TL_q (Qt_move (.slice _ _ _) rfl) rfl ?_
  refine TL_q (Qt_fieldAddr 6 rfl rfl) rfl ?_
  refine TL_n (Ef_store1 (.slice _ _ _) rfl rfl (?_))
  refine TL_nil ?_
  refine X_then ?_
  refine T_seq ?_
  refine T_drawF (blk b6 (.cells (ReqV.mk 1 ((asked.length + 1 : Nat) : Int) (OpV.mk 1 0 0 0) ⟨x54.1.a, x54.1.c, x54.2⟩).cells 85 (0, 0)) :: H) (by kernel_rfl) (Subs.st inferInstance) ?_
  refine DLF_q (i := 0) (by kernel_rfl) rfl (by kernel_rfl) (by kernel_rfl) (Qt_move (.pointer _) rfl) rfl ?_
  refine DLF_q (i := 1) (by kernel_rfl) rfl (by kernel_rfl) (by kernel_rfl) (Qt_move (.pointer _) rfl) rfl ?_
  refine DLF_q (i := 2) (by kernel_rfl) rfl (by kernel_rfl) (by kernel_rfl) (Qt_nilCheck rfl) rfl ?_
  refine DLF_q (i := 3) (by kernel_rfl) rfl (by kernel_rfl) (by kernel_rfl) (Qt_fieldAddr 36 rfl rfl) rfl ?_
  refine DLF_q (i := 5) (by kernel_rfl) rfl (by kernel_rfl) (by kernel_rfl) (Qt_loadN rfl rfl) rfl ?_
  refine DLF_2 (i := 4) (j := 6) (by kernel_rfl) ?_ ?_
  ·
   refine DLS_e rfl rfl (Ef_of_Qt (Qt_load1 rfl) ⟨(Subs.st inferInstance), ?_⟩)
   refine DLF_1 (i := 6) (by kernel_rfl) ?_
   refine DLS_e rfl rfl (Ef_sliceN (m := ([(ReqV.mk 1 ((asked.length + 1 : Nat) : Int) (OpV.mk 1 0 0 0) ⟨x54.1.a, x54.1.c, x54.2⟩)] : List ReqV).length) [.agg (ReqV.mk 1 ((asked.length + 1 : Nat) : Int) (OpV.mk 1 0 0 0) ⟨x54.1.a, x54.1.c, x54.2⟩).cells] (([(ReqV.mk 1 ((asked.length + 1 : Nat) : Int) (OpV.mk 1 0 0 0) ⟨x54.1.a, x54.1.c, x54.2⟩)] : List ReqV).flatMap ReqV.list) rfl rfl rfl (by rfl) (by simp [Value.cells, ReqV.size]) rfl rfl (fun a68 c68 => ⟨(Subs.st inferInstance), ?_⟩))
   refine DLF_1 (i := 7) (by kernel_rfl) ?_
   refine DLS_e rfl rfl (Ef_appendS ReqV.list (sv := .slice _ _ _) (xv := .slice _ _ _) (xs := asked) (ys := [(ReqV.mk 1 ((asked.length + 1 : Nat) : Int) (OpV.mk 1 0 0 0) ⟨x54.1.a, x54.1.c, x54.2⟩)]) ReqV.list_len ReqV.list_one rfl rfl (by simp; omega) rfl rfl (fun a69 c69 => ⟨(Subs.st inferInstance), ?_⟩))
   refine DLF_q (i := 8) (by kernel_rfl) rfl (by kernel_rfl) (by kernel_rfl) (Qt_nilCheck rfl) rfl ?_
   refine DLF_q (i := 9) (by kernel_rfl) rfl (by kernel_rfl) (by kernel_rfl) (Qt_fieldAddr 36 rfl rfl) rfl ?_
   refine DLF_1 (i := 10) (by kernel_rfl) ?_
   refine DLS_n rfl (Ef_store1 (.slice _ _ _) rfl rfl (⟨(Subs.st inferInstance), ?_⟩))
   refine DLF_nil (by kernel_rfl) ?_
   refine X_then ?_
   refine T_seq ?_
   refine T_region ?_
   refine TL_q (Qt_move (.pointer _) rfl) rfl ?_
   refine TL_q (Qt_move (.pointer _) rfl) rfl ?_
   refine TL_q (Qt_nilCheck rfl) rfl ?_
   refine TL_q (Qt_fieldAddr 38 rfl rfl) rfl ?_
   refine TL_n (Ef_store1 (.bool _) rfl rfl (?_))
   refine TL_q (Qt_nilCheck rfl) rfl ?_
   refine TL_q (Qt_fieldAddr 39 rfl rfl) rfl ?_
   refine TL_n (Ef_store1 (.int .u16 _) rfl rfl (?_))
   refine TL_nil ?_
   refine X_then ?_
   refine T_seq ?_
   refine T_region ?_
   refine TL_q (Qt_move (.pointer _) rfl) rfl ?_
   refine TL_q (Qt_nilCheck rfl) rfl ?_
   refine TL_q (Qt_fieldAddr 40 rfl rfl) rfl ?_
   refine TL_q (Qt_load1 rfl) rfl ?_
   refine TL_n (Ef_clearM (enc := encR) (ev := encW) (es := es) (c := c) rfl Try.underlying139 (?_))
   refine TL_nil ?_
   refine X_then ?_
   refine T_seq ?_
   refine T_region ?_
   refine TL_q (Qt_loadN rfl rfl) rfl ?_
   refine TL_e rfl (Ef_call (rput1_c (n := asked.length + 1) (sg := ⟨x54.1.a, x54.1.c, x54.2⟩) (by omega) (by omega) (by show x54.2.length ≤ 1000; omega)) rfl (fun x83 => ?_))
   refine TL_q (Qt_extract rfl) rfl ?_
   refine TL_q (Qt_extract rfl) rfl ?_
   refine TL_q (Qt_assign (.slice _ _ _) rfl) rfl ?_
   refine TL_q (Qt_assign (.int .i64 _) rfl) rfl ?_
   refine TL_nil ?_
   refine X_then ?_
   refine T_ret ?_
   exact X_ret (⟨x83.a, x83.n, x83.c⟩, ⟨a69, c69⟩, asked ++ [(ReqV.mk 1 ((asked.length + 1 : Nat) : Int) (OpV.mk 1 0 0 0) ⟨x54.1.a, x54.1.c, x54.2⟩)], fs ++ rowFp (.slice x54.1.a x54.2.length x54.1.c)) [_, _] Try.results25 ⟨rfl, rfl, trivial⟩ rfl (fun w hw => by
    have h1 : St w0 (row (.slice (BS.mk x54.1.a x54.1.c x54.2).a (BS.mk x54.1.a x54.1.c x54.2).l.length (BS.mk x54.1.a x54.1.c x54.2).c) 5 1 (bytesV (BS.mk x54.1.a x54.1.c x54.2).l) :: blk p (.cells (ClientV.mk (KeysV.mk ⟨sa, sc, ls⟩ rt) 1 seed need ⟨a69, (asked ++ [(ReqV.mk 1 ((asked.length + 1 : Nat) : Int) (OpV.mk 1 0 0 0) ⟨x54.1.a, x54.1.c, x54.2⟩)]).length, c69⟩ ⟨ga, (got).length, gc⟩ true ((0 : Nat) : Int) (some m)).cells 141 (0, 0)) :: dat fs ⟨asked.map ReqV.sig, [], []⟩ :: row (.slice a69 (asked ++ [(ReqV.mk 1 ((asked.length + 1 : Nat) : Int) (OpV.mk 1 0 0 0) ⟨x54.1.a, x54.1.c, x54.2⟩)]).length c69) 85 7 ((asked ++ [(ReqV.mk 1 ((asked.length + 1 : Nat) : Int) (OpV.mk 1 0 0 0) ⟨x54.1.a, x54.1.c, x54.2⟩)]).flatMap ReqV.list) :: row (.slice ga (got).length gc) 31 5 ((got).flatMap ReplyV.list) :: blk m (mapO encR encW ([] : List (Ent ReplyV Nat)) c) :: H) w := Subs.st inferInstance w hw
    have h2 := h1.datB
    have h3 : St w0 (dat fs ⟨asked.map ReqV.sig, [], []⟩ :: dat (rowFp (.slice x54.1.a x54.2.length x54.1.c)) ⟨[⟨x54.1.a, x54.1.c, x54.2⟩], [], []⟩ :: blk p (.cells (ClientV.mk (KeysV.mk ⟨sa, sc, ls⟩ rt) 1 seed need ⟨a69, (asked ++ [(ReqV.mk 1 ((asked.length + 1 : Nat) : Int) (OpV.mk 1 0 0 0) ⟨x54.1.a, x54.1.c, x54.2⟩)]).length, c69⟩ ⟨ga, (got).length, gc⟩ true ((0 : Nat) : Int) (some m)).cells 141 (0, 0)) :: row (.slice a69 (asked ++ [(ReqV.mk 1 ((asked.length + 1 : Nat) : Int) (OpV.mk 1 0 0 0) ⟨x54.1.a, x54.1.c, x54.2⟩)]).length c69) 85 7 ((asked ++ [(ReqV.mk 1 ((asked.length + 1 : Nat) : Int) (OpV.mk 1 0 0 0) ⟨x54.1.a, x54.1.c, x54.2⟩)]).flatMap ReqV.list) :: row (.slice ga (got).length gc) 31 5 ((got).flatMap ReplyV.list) :: blk m (mapO encR encW ([] : List (Ent ReplyV Nat)) c) :: H) w := Subs.st inferInstance w h2
    have h4 : St w0 (dat (fs ++ rowFp (.slice x54.1.a x54.2.length x54.1.c)) ⟨(asked ++ [(ReqV.mk 1 ((asked.length + 1 : Nat) : Int) (OpV.mk 1 0 0 0) ⟨x54.1.a, x54.1.c, x54.2⟩)]).map ReqV.sig, [], []⟩ :: blk p (.cells (ClientV.mk (KeysV.mk ⟨sa, sc, ls⟩ rt) 1 seed need ⟨a69, (asked ++ [(ReqV.mk 1 ((asked.length + 1 : Nat) : Int) (OpV.mk 1 0 0 0) ⟨x54.1.a, x54.1.c, x54.2⟩)]).length, c69⟩ ⟨ga, (got).length, gc⟩ true ((0 : Nat) : Int) (some m)).cells 141 (0, 0)) :: row (.slice a69 (asked ++ [(ReqV.mk 1 ((asked.length + 1 : Nat) : Int) (OpV.mk 1 0 0 0) ⟨x54.1.a, x54.1.c, x54.2⟩)]).length c69) 85 7 ((asked ++ [(ReqV.mk 1 ((asked.length + 1 : Nat) : Int) (OpV.mk 1 0 0 0) ⟨x54.1.a, x54.1.c, x54.2⟩)]).flatMap ReqV.list) :: row (.slice ga (got).length gc) 31 5 ((got).flatMap ReplyV.list) :: blk m (mapO encR encW ([] : List (Ent ReplyV Nat)) c) :: H) w := by
     rw [List.map_append]
     exact h3.datAdd
    exact (Subs.st inferInstance w h4 : St w0 (blk p (.cells (ClientV.mk (KeysV.mk ⟨sa, sc, ls⟩ rt) 1 seed need ⟨a69, (asked ++ [(ReqV.mk 1 ((asked.length + 1 : Nat) : Int) (OpV.mk 1 0 0 0) ⟨x54.1.a, x54.1.c, x54.2⟩)]).length, c69⟩ ⟨ga, (got).length, gc⟩ true ((0 : Nat) : Int) (some m)).cells 141 (0, 0)) :: row (.slice a69 (asked ++ [(ReqV.mk 1 ((asked.length + 1 : Nat) : Int) (OpV.mk 1 0 0 0) ⟨x54.1.a, x54.1.c, x54.2⟩)]).length c69) 85 7 ((asked ++ [(ReqV.mk 1 ((asked.length + 1 : Nat) : Int) (OpV.mk 1 0 0 0) ⟨x54.1.a, x54.1.c, x54.2⟩)]).flatMap ReqV.list) :: dat (fs ++ rowFp (.slice x54.1.a x54.2.length x54.1.c)) ⟨(asked ++ [(ReqV.mk 1 ((asked.length + 1 : Nat) : Int) (OpV.mk 1 0 0 0) ⟨x54.1.a, x54.1.c, x54.2⟩)]).map ReqV.sig, [], []⟩ :: row (.slice ga (got).length gc) 31 5 ((got).flatMap ReplyV.list) :: blk m (mapO encR encW ([] : List (Ent ReplyV Nat)) c) :: H) w).addPure ⟨by simp, fun r hr => by rcases List.mem_append.1 hr with h | h; exact hsg r h; rw [List.mem_singleton.1 h]; show x54.2.length ≤ 1000; omega⟩)
  ·
   refine DLS_e rfl rfl (Ef_sliceN (m := ([(ReqV.mk 1 ((asked.length + 1 : Nat) : Int) (OpV.mk 1 0 0 0) ⟨x54.1.a, x54.1.c, x54.2⟩)] : List ReqV).length) [.agg (ReqV.mk 1 ((asked.length + 1 : Nat) : Int) (OpV.mk 1 0 0 0) ⟨x54.1.a, x54.1.c, x54.2⟩).cells] (([(ReqV.mk 1 ((asked.length + 1 : Nat) : Int) (OpV.mk 1 0 0 0) ⟨x54.1.a, x54.1.c, x54.2⟩)] : List ReqV).flatMap ReqV.list) rfl rfl rfl (by rfl) (by simp [Value.cells, ReqV.size]) rfl rfl (fun a68 c68 => ⟨(Subs.st inferInstance), ?_⟩))
   refine DLF_1 (i := 4) (by kernel_rfl) ?_
   refine DLS_e rfl rfl (Ef_of_Qt (Qt_load1 rfl) ⟨(Subs.st inferInstance), ?_⟩)
   refine DLF_1 (i := 7) (by kernel_rfl) ?_
   refine DLS_e rfl rfl (Ef_appendS ReqV.list (sv := .slice _ _ _) (xv := .slice _ _ _) (xs := asked) (ys := [(ReqV.mk 1 ((asked.length + 1 : Nat) : Int) (OpV.mk 1 0 0 0) ⟨x54.1.a, x54.1.c, x54.2⟩)]) ReqV.list_len ReqV.list_one rfl rfl (by simp; omega) rfl rfl (fun a69 c69 => ⟨(Subs.st inferInstance), ?_⟩))
   refine DLF_q (i := 8) (by kernel_rfl) rfl (by kernel_rfl) (by kernel_rfl) (Qt_nilCheck rfl) rfl ?_
   refine DLF_q (i := 9) (by kernel_rfl) rfl (by kernel_rfl) (by kernel_rfl) (Qt_fieldAddr 36 rfl rfl) rfl ?_
   refine DLF_1 (i := 10) (by kernel_rfl) ?_
   refine DLS_n rfl (Ef_store1 (.slice _ _ _) rfl rfl (⟨(Subs.st inferInstance), ?_⟩))
   refine DLF_nil (by kernel_rfl) ?_
   refine X_then ?_
   refine T_seq ?_
   refine T_region ?_
   refine TL_q (Qt_move (.pointer _) rfl) rfl ?_
   refine TL_q (Qt_move (.pointer _) rfl) rfl ?_
   refine TL_q (Qt_nilCheck rfl) rfl ?_
   refine TL_q (Qt_fieldAddr 38 rfl rfl) rfl ?_
   refine TL_n (Ef_store1 (.bool _) rfl rfl (?_))
   refine TL_q (Qt_nilCheck rfl) rfl ?_
   refine TL_q (Qt_fieldAddr 39 rfl rfl) rfl ?_
   refine TL_n (Ef_store1 (.int .u16 _) rfl rfl (?_))
   refine TL_nil ?_
   refine X_then ?_
   refine T_seq ?_
   refine T_region ?_
   refine TL_q (Qt_move (.pointer _) rfl) rfl ?_
   refine TL_q (Qt_nilCheck rfl) rfl ?_
   refine TL_q (Qt_fieldAddr 40 rfl rfl) rfl ?_
   refine TL_q (Qt_load1 rfl) rfl ?_
   refine TL_n (Ef_clearM (enc := encR) (ev := encW) (es := es) (c := c) rfl Try.underlying139 (?_))
   refine TL_nil ?_
   refine X_then ?_
   refine T_seq ?_
   refine T_region ?_
   refine TL_q (Qt_loadN rfl rfl) rfl ?_
   refine TL_e rfl (Ef_call (rput1_c (n := asked.length + 1) (sg := ⟨x54.1.a, x54.1.c, x54.2⟩) (by omega) (by omega) (by show x54.2.length ≤ 1000; omega)) rfl (fun x83 => ?_))
   refine TL_q (Qt_extract rfl) rfl ?_
   refine TL_q (Qt_extract rfl) rfl ?_
   refine TL_q (Qt_assign (.slice _ _ _) rfl) rfl ?_
   refine TL_q (Qt_assign (.int .i64 _) rfl) rfl ?_
   refine TL_nil ?_
   refine X_then ?_
   refine T_ret ?_
   exact X_ret (⟨x83.a, x83.n, x83.c⟩, ⟨a69, c69⟩, asked ++ [(ReqV.mk 1 ((asked.length + 1 : Nat) : Int) (OpV.mk 1 0 0 0) ⟨x54.1.a, x54.1.c, x54.2⟩)], fs ++ rowFp (.slice x54.1.a x54.2.length x54.1.c)) [_, _] Try.results25 ⟨rfl, rfl, trivial⟩ rfl (fun w hw => by
    have h1 : St w0 (row (.slice (BS.mk x54.1.a x54.1.c x54.2).a (BS.mk x54.1.a x54.1.c x54.2).l.length (BS.mk x54.1.a x54.1.c x54.2).c) 5 1 (bytesV (BS.mk x54.1.a x54.1.c x54.2).l) :: blk p (.cells (ClientV.mk (KeysV.mk ⟨sa, sc, ls⟩ rt) 1 seed need ⟨a69, (asked ++ [(ReqV.mk 1 ((asked.length + 1 : Nat) : Int) (OpV.mk 1 0 0 0) ⟨x54.1.a, x54.1.c, x54.2⟩)]).length, c69⟩ ⟨ga, (got).length, gc⟩ true ((0 : Nat) : Int) (some m)).cells 141 (0, 0)) :: dat fs ⟨asked.map ReqV.sig, [], []⟩ :: row (.slice a69 (asked ++ [(ReqV.mk 1 ((asked.length + 1 : Nat) : Int) (OpV.mk 1 0 0 0) ⟨x54.1.a, x54.1.c, x54.2⟩)]).length c69) 85 7 ((asked ++ [(ReqV.mk 1 ((asked.length + 1 : Nat) : Int) (OpV.mk 1 0 0 0) ⟨x54.1.a, x54.1.c, x54.2⟩)]).flatMap ReqV.list) :: row (.slice ga (got).length gc) 31 5 ((got).flatMap ReplyV.list) :: blk m (mapO encR encW ([] : List (Ent ReplyV Nat)) c) :: H) w := Subs.st inferInstance w hw
    have h2 := h1.datB
    have h3 : St w0 (dat fs ⟨asked.map ReqV.sig, [], []⟩ :: dat (rowFp (.slice x54.1.a x54.2.length x54.1.c)) ⟨[⟨x54.1.a, x54.1.c, x54.2⟩], [], []⟩ :: blk p (.cells (ClientV.mk (KeysV.mk ⟨sa, sc, ls⟩ rt) 1 seed need ⟨a69, (asked ++ [(ReqV.mk 1 ((asked.length + 1 : Nat) : Int) (OpV.mk 1 0 0 0) ⟨x54.1.a, x54.1.c, x54.2⟩)]).length, c69⟩ ⟨ga, (got).length, gc⟩ true ((0 : Nat) : Int) (some m)).cells 141 (0, 0)) :: row (.slice a69 (asked ++ [(ReqV.mk 1 ((asked.length + 1 : Nat) : Int) (OpV.mk 1 0 0 0) ⟨x54.1.a, x54.1.c, x54.2⟩)]).length c69) 85 7 ((asked ++ [(ReqV.mk 1 ((asked.length + 1 : Nat) : Int) (OpV.mk 1 0 0 0) ⟨x54.1.a, x54.1.c, x54.2⟩)]).flatMap ReqV.list) :: row (.slice ga (got).length gc) 31 5 ((got).flatMap ReplyV.list) :: blk m (mapO encR encW ([] : List (Ent ReplyV Nat)) c) :: H) w := Subs.st inferInstance w h2
    have h4 : St w0 (dat (fs ++ rowFp (.slice x54.1.a x54.2.length x54.1.c)) ⟨(asked ++ [(ReqV.mk 1 ((asked.length + 1 : Nat) : Int) (OpV.mk 1 0 0 0) ⟨x54.1.a, x54.1.c, x54.2⟩)]).map ReqV.sig, [], []⟩ :: blk p (.cells (ClientV.mk (KeysV.mk ⟨sa, sc, ls⟩ rt) 1 seed need ⟨a69, (asked ++ [(ReqV.mk 1 ((asked.length + 1 : Nat) : Int) (OpV.mk 1 0 0 0) ⟨x54.1.a, x54.1.c, x54.2⟩)]).length, c69⟩ ⟨ga, (got).length, gc⟩ true ((0 : Nat) : Int) (some m)).cells 141 (0, 0)) :: row (.slice a69 (asked ++ [(ReqV.mk 1 ((asked.length + 1 : Nat) : Int) (OpV.mk 1 0 0 0) ⟨x54.1.a, x54.1.c, x54.2⟩)]).length c69) 85 7 ((asked ++ [(ReqV.mk 1 ((asked.length + 1 : Nat) : Int) (OpV.mk 1 0 0 0) ⟨x54.1.a, x54.1.c, x54.2⟩)]).flatMap ReqV.list) :: row (.slice ga (got).length gc) 31 5 ((got).flatMap ReplyV.list) :: blk m (mapO encR encW ([] : List (Ent ReplyV Nat)) c) :: H) w := by
     rw [List.map_append]
     exact h3.datAdd
    exact (Subs.st inferInstance w h4 : St w0 (blk p (.cells (ClientV.mk (KeysV.mk ⟨sa, sc, ls⟩ rt) 1 seed need ⟨a69, (asked ++ [(ReqV.mk 1 ((asked.length + 1 : Nat) : Int) (OpV.mk 1 0 0 0) ⟨x54.1.a, x54.1.c, x54.2⟩)]).length, c69⟩ ⟨ga, (got).length, gc⟩ true ((0 : Nat) : Int) (some m)).cells 141 (0, 0)) :: row (.slice a69 (asked ++ [(ReqV.mk 1 ((asked.length + 1 : Nat) : Int) (OpV.mk 1 0 0 0) ⟨x54.1.a, x54.1.c, x54.2⟩)]).length c69) 85 7 ((asked ++ [(ReqV.mk 1 ((asked.length + 1 : Nat) : Int) (OpV.mk 1 0 0 0) ⟨x54.1.a, x54.1.c, x54.2⟩)]).flatMap ReqV.list) :: dat (fs ++ rowFp (.slice x54.1.a x54.2.length x54.1.c)) ⟨(asked ++ [(ReqV.mk 1 ((asked.length + 1 : Nat) : Int) (OpV.mk 1 0 0 0) ⟨x54.1.a, x54.1.c, x54.2⟩)]).map ReqV.sig, [], []⟩ :: row (.slice ga (got).length gc) 31 5 ((got).flatMap ReplyV.list) :: blk m (mapO encR encW ([] : List (Ent ReplyV Nat)) c) :: H) w).addPure ⟨by simp, fun r hr => by rcases List.mem_append.1 hr with h | h; exact hsg r h; rw [List.mem_singleton.1 h]; show x54.2.length ≤ 1000; omega⟩)
end
section
open Go.RowKit Go.Sx
set_option maxRecDepth 100000
set_option linter.unusedSimpArgs false
set_option linter.unusedVariables false
theorem openK_formed {K : List (List UInt8)} {l : List UInt8} (h : (openK K l).1 = 0) : formedM (openK K l).2 = true := by
 unfold openK at h ⊢
 repeat' (split at h)
 all_goals first | (exact absurd h (by decide)) | skip
 all_goals first | (rename_i h2 h3 h4 h5; rw [if_neg h2, if_neg h3, if_neg h4, if_neg h5]; exact getM_formed (by omega)) | (rename_i h2 h3; exact absurd h h3)
theorem msgR_bodyK (l : List UInt8) : (msgR l).2.body.length ≤ l.length := by
 have hb := (rdText_bound (l.drop (8 + 32)) 65536).2
 rw [List.length_drop] at hb
 unfold msgR
 repeat' split
 all_goals first | exact Nat.zero_le _ | (show (bodyR l).2.1.length ≤ _; unfold bodyR; omega)
theorem getM_bodyK (l : List UInt8) : (getM l).2.body.length ≤ l.length := by
 unfold getM
 repeat' split
 all_goals first | exact Nat.zero_le _ | exact msgR_bodyK l
theorem openK_bodyK (K : List (List UInt8)) (l : List UInt8) : (openK K l).2.body.length ≤ l.length := by
 unfold openK
 repeat' split
 all_goals first | exact Nat.zero_le _ | (have := getM_bodyK (l.take (l.length - 32)); rw [List.length_take] at this; show (getM (l.take (l.length - 32))).2.body.length ≤ _; omega)
attribute [local irreducible] openK
def repC (K : List (List UInt8)) (l : List UInt8) : ReplyV := (replyG (openK K l).2.body).2
def frmC (K : List (List UInt8)) (l : List UInt8) : Nat := (openK K l).2.frm.toNat
/-- Why an answer doesn't count; 0: it does. -/
def chkC (K : List (List UInt8)) (id : Int) (n : Nat) (waits : Bool) (who : Nat) (l : List UInt8) : Int :=
 if (openK K l).1 ≠ 0 then (openK K l).1 else if (openK K l).2.kind ≠ 7 then 15 else if (replyG (openK K l).2.body).1 ≠ 0 then (replyG (openK K l).2.body).1
 else if (repC K l).client ≠ id then 6 else if waits = false ∨ (repC K l).seq ≠ (n : Int) then 13 else if (repC K l).slot ≠ (openK K l).2.slot then 8
 else if who / 2 ^ frmC K l % 2 ≠ 0 then 7 else 0
structure TkY where
 e : Int
 r : ReplyV
 waits : Bool
 who : Nat
 es : List (Ent ReplyV Nat)
 c : Nat
 ga : Option Addr
 gc : Nat
 got : List ReplyV
def TakeC (K : List (List UInt8)) (id need : Int) (n : Nat) (waits : Bool) (who : Nat) (es : List (Ent ReplyV Nat)) (got : List ReplyV) (l : List UInt8) (y : TkY) : Prop :=
 GoodM y.es y.c ∧ (chkC K id n waits who l ≠ 0 → y.e = chkC K id n waits who l ∧ y.r = .zero ∧ y.waits = waits ∧ y.who = who ∧ y.es = es ∧ y.got = got) ∧
 (chkC K id n waits who l = 0 → y.who = who ||| 2 ^ frmC K l ∧ (∀ key, (getE y.es key).getD 0 = if key = repC K l then (getE es (repC K l)).getD 0 ||| 2 ^ frmC K l else (getE es key).getD 0) ∧
  (((ones16 ((getE es (repC K l)).getD 0 ||| 2 ^ frmC K l) : Nat) : Int) < need → y.e = 1 ∧ y.r = .zero ∧ y.waits = waits ∧ y.got = got) ∧
  (need ≤ ((ones16 ((getE es (repC K l)).getD 0 ||| 2 ^ frmC K l) : Nat) : Int) → y.e = 0 ∧ y.r = repC K l ∧ y.waits = false ∧ y.got = got ++ [repC K l]))
theorem TakeC.bad {K : List (List UInt8)} {id need : Int} {n : Nat} {waits : Bool} {who : Nat} {es : List (Ent ReplyV Nat)} {got : List ReplyV} {l : List UInt8} {c : Nat} {e : Int} {ga : Option Addr} {gc : Nat} (hg : GoodM es c) (h : chkC K id n waits who l = e) (he : e ≠ 0) : TakeC K id need n waits who es got l ⟨e, .zero, waits, who, es, c, ga, gc, got⟩ :=
 ⟨hg, fun _ => ⟨h.symm, rfl, rfl, rfl, rfl, rfl⟩, fun h0 => absurd (h.symm.trans h0) he⟩
theorem put2_good {es : List (Ent ReplyV Nat)} {c : Nat} (h : GoodM es c) (k : ReplyV) (u v : Nat) : GoodM (putE (putE es k u c) k v (clockE es k c)) (clockE es k c) := by
 have h1 := putE_goodK h k u
 have h2 := putE_goodK h1 k v
 have hh : hasE (putE es k u c) k = true := by simp [hasE, getE_putK]
 rwa [show clockE (putE es k u c) k (clockE es k c) = clockE es k c from by rw [clockE, hh]; rfl] at h2
theorem put2_get (es : List (Ent ReplyV Nat)) (c c' : Nat) (k : ReplyV) (u v : Nat) (key : ReplyV) : (getE (putE (putE es k u c) k v c') key).getD 0 = if key = k then v else (getE es key).getD 0 := by
 rw [getE_putK, getE_putK]
 by_cases h : key = k <;> simp [h]
attribute [local irreducible] chkC repC frmC ones16 replyG
set_option maxHeartbeats 1000000 in
theorem take_c {w0 : World} {H : List SA} {p m : Nat} {id : Int} {waits : Bool} {sa : Option Addr} {sc : Nat} {ls : List BS} {rt : Sl} {seed : Vector UInt8 32} {need : Int} {aa : Option Addr} {ac : Nat} {asked : List ReqV} {fs : List Nat} {ga : Option Addr} {gc : Nat} {got : List ReplyV} {who : Nat} {es : List (Ent ReplyV Nat)} {c : Nat} [rk : RdC w0 H (.slice sa ls.length sc) 1 (ls.map BS.val)] [rke : RdE w0 H ls] (hkl : ∀ x ∈ ls, x.l.length ≤ 4294967000) (hg : GoodM es c) (hwho : who < 65536) (hes : ∀ key, (getE es key).getD 0 < 65536) (hgl : got.length ≤ 1000) {a : Option Addr} {l : List UInt8} {lc : Nat} [hr : RdB w0 H (.slice a l.length lc) l] (hl : l.length ≤ 4294960000) :
 CT Try.prog w0 (blk p (.cells (ClientV.mk (KeysV.mk ⟨sa, sc, ls⟩ rt) id seed need ⟨aa, (asked).length, ac⟩ ⟨ga, (got).length, gc⟩ waits ((who : Nat) : Int) (some m)).cells 141 (0, 0)) :: row (.slice aa (asked).length ac) 85 7 ((asked).flatMap ReqV.list) :: dat fs ⟨(asked).map ReqV.sig, [], []⟩ :: row (.slice ga (got).length gc) 31 5 ((got).flatMap ReplyV.list) :: blk m (mapO encR encW es c) :: H) 27 [.pointer (some ⟨p, 0, none⟩), .slice a l.length lc] (α := TkY) (fun y => .tuple #[.agg y.r.cells, .int .i64 y.e]) (fun y => pu (TakeC (ls.map BS.l) id need asked.length waits who es got l y) :: blk p (.cells (ClientV.mk (KeysV.mk ⟨sa, sc, ls⟩ rt) id seed need ⟨aa, (asked).length, ac⟩ ⟨y.ga, (y.got).length, y.gc⟩ y.waits ((y.who : Nat) : Int) (some m)).cells 141 (0, 0)) :: row (.slice aa (asked).length ac) 85 7 ((asked).flatMap ReqV.list) :: dat fs ⟨(asked).map ReqV.sig, [], []⟩ :: row (.slice y.ga (y.got).length y.gc) 31 5 ((y.got).flatMap ReplyV.list) :: blk m (mapO encR encW y.es y.c) :: H) := by
 refine CT_intro Try.func27 rfl Try.ntmps27 rfl ?_
 refine T_seq ?_
 refine T_region ?_
 refine TL_e rfl (Ef_allocN (fun b4 => ?_))
 refine TL_q (Qt_assign (.int .i64 _) rfl) rfl ?_
 refine TL_nil ?_
 refine X_then ?_
 refine T_seq ?_
 refine T_seq ?_
 refine T_region ?_
 refine TL_q (Qt_move (.pointer _) rfl) rfl ?_
 refine TL_q (Qt_ptr_nil rfl rfl Try.underlying67) rfl ?_
 refine TL_nil ?_
 refine X_then ?_
 refine T_cond_false rfl (by first | rfl | decide) ?_
 refine T_skip ?_
 refine X_then ?_
 refine T_seq ?_
 refine T_region ?_
 refine TL_q (Qt_move (.pointer _) rfl) rfl ?_
 refine TL_q (Qt_nilCheck rfl) rfl ?_
 refine TL_q (Qt_fieldAddr 0 rfl rfl) rfl ?_
 refine TL_q (Qt_loadN rfl rfl) rfl ?_
 refine TL_q (Qt_move (.slice _ _ _) rfl) rfl ?_
 refine TL_e rfl (Ef_call (openF_c (sa := sa) (sc := sc) (ls := ls) (rt := rt) hkl hl) rfl (fun x18 => ?_))
 refine TL_pure (fun h18 => ?_)
 have hkd : x18.1.kind = (openK (ls.map BS.l) l).2.kind := congrArg MsgD.kind h18
 have hfr : x18.1.frm = (openK (ls.map BS.l) l).2.frm := congrArg MsgD.frm h18
 have hsl : x18.1.slot = (openK (ls.map BS.l) l).2.slot := congrArg MsgD.slot h18
 have hbd : x18.1.body.l = (openK (ls.map BS.l) l).2.body := congrArg MsgD.body h18
 have hrep : (replyG x18.1.body.l).2 = repC (ls.map BS.l) l := by unfold repC; rw [← hbd]
 refine TL_q (Qt_move (.tuple _) rfl) rfl ?_
 refine TL_q (Qt_extract rfl) rfl ?_
 refine TL_q (Qt_extract rfl) rfl ?_
 refine TL_e rfl (Ef_allocN (fun b6 => ?_))
 refine TL_n (Ef_storeN rfl rfl (?_))
 refine TL_q (Qt_assign (.int .i64 _) rfl) rfl ?_
 refine TL_nil ?_
 refine X_then ?_
 refine T_seq ?_
 refine T_block ?_
 refine T_seq ?_
 refine T_region ?_
 refine TL_q (Qt_move (.int .i64 _) rfl) rfl ?_
 refine TL_q (Qt_neq rfl rfl) rfl ?_
 refine TL_q (Qt_assign (.bool _) rfl) rfl ?_
 refine TL_nil ?_
 refine X_then ?_
 refine T_cond rfl (fun h21 => ?_) (fun h21 => ?_)
 ·
  have p21 := h21
  try simp only [decide_eq_true_eq, decide_eq_false_iff_not, Bool.not_eq_true', Bool.not_eq_false', Option.isNone_iff_eq_none, ne_eq, Decidable.not_not, Int.not_lt, Int.not_le] at p21
  refine T_seq ?_
  refine T_region ?_
  refine TL_q (Qt_build [] rfl (by kernel_rfl)) rfl ?_
  refine TL_q (Qt_move (.int .i64 _) rfl) rfl ?_
  refine TL_n (Ef_storeN rfl rfl (?_))
  refine TL_q (Qt_assign (.int .i64 _) rfl) rfl ?_
  refine TL_nil ?_
  refine X_then ?_
  refine T_ret ?_
  refine X_block_ret ?_
  refine X_then_ret ?_
  have hck : chkC (ls.map BS.l) id asked.length waits who l = (openK (ls.map BS.l) l).1 := by
   unfold chkC; exact if_pos (by simpa using p21)
  exact X_ret (⟨(openK (ls.map BS.l) l).1, .zero, waits, who, es, c, ga, gc, got⟩ : TkY) [_, _] Try.results27 ⟨⟨_, rfl, res_cellN rfl⟩, rfl, trivial⟩ rfl (fun w hw => (Subs.st inferInstance w hw : St w0 (blk p (.cells (ClientV.mk (KeysV.mk ⟨sa, sc, ls⟩ rt) id seed need ⟨aa, (asked).length, ac⟩ ⟨ga, (got).length, gc⟩ waits ((who : Nat) : Int) (some m)).cells 141 (0, 0)) :: row (.slice aa (asked).length ac) 85 7 ((asked).flatMap ReqV.list) :: dat fs ⟨(asked).map ReqV.sig, [], []⟩ :: row (.slice ga (got).length gc) 31 5 ((got).flatMap ReplyV.list) :: blk m (mapO encR encW es c) :: H) w).addPure (TakeC.bad hg hck (by simpa using p21)))
 ·
  have p21 := h21
  try simp only [decide_eq_true_eq, decide_eq_false_iff_not, Bool.not_eq_true', Bool.not_eq_false', Option.isNone_iff_eq_none, ne_eq, Decidable.not_not, Int.not_lt, Int.not_le] at p21
  have hfm := (formedM_iff _).1 (openK_formed (K := (ls.map BS.l)) (l := l) (by simpa using p21))
  obtain ⟨f, hfe⟩ := Int.eq_ofNat_of_zero_le (show 0 ≤ x18.1.frm by rw [hfr]; exact hfm.2.2.1)
  have hf16 : f < 16 := by have := hfm.2.2.2.1; rw [← hfr] at this; omega
  have hff : f = frmC (ls.map BS.l) l := by unfold frmC; rw [← hfr, hfe]; rfl
  have h2f : 2 ^ f < 65536 := Nat.pow_lt_pow_right (by decide) hf16
  have hold := hes (replyG x18.1.body.l).2
  have hv16 : (((getE es (replyG x18.1.body.l).2).getD 0) ||| 2 ^ f) < 65536 := Nat.or_lt_two_pow (n := 16) hold h2f
  have hw16 : who ||| 2 ^ f < 65536 := Nat.or_lt_two_pow (n := 16) hwho h2f
  refine T_seq ?_
  refine T_region ?_
  refine TL_q (Qt_fieldAddr 0 rfl rfl) rfl ?_
  refine TL_q (Qt_load1 rfl) rfl ?_
  refine TL_q (Qt_neq rfl rfl) rfl ?_
  refine TL_q (Qt_assign (.bool _) rfl) rfl ?_
  refine TL_nil ?_
  refine X_then ?_
  refine T_cond rfl (fun h26 => ?_) (fun h26 => ?_)
  ·
   have p26 := h26
   try simp only [decide_eq_true_eq, decide_eq_false_iff_not, Bool.not_eq_true', Bool.not_eq_false', Option.isNone_iff_eq_none, ne_eq, Decidable.not_not, Int.not_lt, Int.not_le] at p26
   refine T_seq ?_
   refine T_region ?_
   refine TL_q (Qt_build [] rfl (by kernel_rfl)) rfl ?_
   refine TL_n (Ef_storeN rfl rfl (?_))
   refine TL_q (Qt_assign (.int .i64 _) rfl) rfl ?_
   refine TL_nil ?_
   refine X_then ?_
   refine T_ret ?_
   refine X_block_ret ?_
   refine X_then_ret ?_
   have hck : chkC (ls.map BS.l) id asked.length waits who l = 15 := by
    unfold chkC
    rw [if_neg (by simpa using p21), if_pos (by rw [← hkd]; simpa using p26)]
   exact X_ret (⟨15, .zero, waits, who, es, c, ga, gc, got⟩ : TkY) [_, _] Try.results27 ⟨⟨_, rfl, res_cellN rfl⟩, rfl, trivial⟩ rfl (fun w hw => (Subs.st inferInstance w hw : St w0 (blk p (.cells (ClientV.mk (KeysV.mk ⟨sa, sc, ls⟩ rt) id seed need ⟨aa, (asked).length, ac⟩ ⟨ga, (got).length, gc⟩ waits ((who : Nat) : Int) (some m)).cells 141 (0, 0)) :: row (.slice aa (asked).length ac) 85 7 ((asked).flatMap ReqV.list) :: dat fs ⟨(asked).map ReqV.sig, [], []⟩ :: row (.slice ga (got).length gc) 31 5 ((got).flatMap ReplyV.list) :: blk m (mapO encR encW es c) :: H) w).addPure (TakeC.bad hg hck (by decide)))
  ·
   have p26 := h26
   try simp only [decide_eq_true_eq, decide_eq_false_iff_not, Bool.not_eq_true', Bool.not_eq_false', Option.isNone_iff_eq_none, ne_eq, Decidable.not_not, Int.not_lt, Int.not_le] at p26
   refine T_skip ?_
   refine X_block ?_
   refine X_then ?_
   refine T_seq ?_
   refine T_region ?_
   refine TL_q (Qt_fieldAddr 37 rfl rfl) rfl ?_
   refine TL_q (Qt_load1 rfl) rfl ?_
   refine TL_e rfl (Ef_call (getReply_c (l := x18.1.body.l) (by have := openK_bodyK (ls.map BS.l) l; rw [hbd]; omega)) rfl (fun x34 => ?_))
   refine TL_q (Qt_move (.tuple _) rfl) rfl ?_
   refine TL_q (Qt_extract rfl) rfl ?_
   refine TL_q (Qt_extract rfl) rfl ?_
   refine TL_e rfl (Ef_allocN (fun b8 => ?_))
   refine TL_n (Ef_storeN rfl rfl (?_))
   refine TL_q (Qt_assign (.int .i64 _) rfl) rfl ?_
   refine TL_nil ?_
   refine X_then ?_
   refine T_seq ?_
   refine T_block ?_
   refine T_seq ?_
   refine T_region ?_
   refine TL_q (Qt_move (.int .i64 _) rfl) rfl ?_
   refine TL_q (Qt_neq rfl rfl) rfl ?_
   refine TL_q (Qt_assign (.bool _) rfl) rfl ?_
   refine TL_nil ?_
   refine X_then ?_
   refine T_cond rfl (fun h37 => ?_) (fun h37 => ?_)
   ·
    have p37 := h37
    try simp only [decide_eq_true_eq, decide_eq_false_iff_not, Bool.not_eq_true', Bool.not_eq_false', Option.isNone_iff_eq_none, ne_eq, Decidable.not_not, Int.not_lt, Int.not_le] at p37
    refine T_seq ?_
    refine T_region ?_
    refine TL_q (Qt_build [] rfl (by kernel_rfl)) rfl ?_
    refine TL_q (Qt_move (.int .i64 _) rfl) rfl ?_
    refine TL_n (Ef_storeN rfl rfl (?_))
    refine TL_q (Qt_assign (.int .i64 _) rfl) rfl ?_
    refine TL_nil ?_
    refine X_then ?_
    refine T_ret ?_
    refine X_block_ret ?_
    refine X_then_ret ?_
    have hck : chkC (ls.map BS.l) id asked.length waits who l = (replyG x18.1.body.l).1 := by
     unfold chkC
     rw [if_neg (by simpa using p21), if_neg (by rw [← hkd]; simpa using p26), if_pos (by rw [← hbd]; simpa using p37), hbd]
    exact X_ret (⟨(replyG x18.1.body.l).1, .zero, waits, who, es, c, ga, gc, got⟩ : TkY) [_, _] Try.results27 ⟨⟨_, rfl, res_cellN rfl⟩, rfl, trivial⟩ rfl (fun w hw => (Subs.st inferInstance w hw : St w0 (blk p (.cells (ClientV.mk (KeysV.mk ⟨sa, sc, ls⟩ rt) id seed need ⟨aa, (asked).length, ac⟩ ⟨ga, (got).length, gc⟩ waits ((who : Nat) : Int) (some m)).cells 141 (0, 0)) :: row (.slice aa (asked).length ac) 85 7 ((asked).flatMap ReqV.list) :: dat fs ⟨(asked).map ReqV.sig, [], []⟩ :: row (.slice ga (got).length gc) 31 5 ((got).flatMap ReplyV.list) :: blk m (mapO encR encW es c) :: H) w).addPure (TakeC.bad hg hck (by simpa using p37)))
   ·
    have p37 := h37
    try simp only [decide_eq_true_eq, decide_eq_false_iff_not, Bool.not_eq_true', Bool.not_eq_false', Option.isNone_iff_eq_none, ne_eq, Decidable.not_not, Int.not_lt, Int.not_le] at p37
    refine T_seq ?_
    refine T_draw (blk b8 (.cells (replyG x18.1.body.l).2.cells 31 (0, 0)) :: blk p (.cells (ClientV.mk (KeysV.mk ⟨sa, sc, ls⟩ rt) id seed need ⟨aa, (asked).length, ac⟩ ⟨ga, (got).length, gc⟩ waits ((who : Nat) : Int) (some m)).cells 141 (0, 0)) :: H) [(0, true), (1, true), (2, true), (3, true), (4, true), (5, true), (6, true), (7, true)] (by kernel_rfl) (by kernel_rfl) rfl (by kernel_rfl) (Subs.st inferInstance) (fun hns0 => ?_)
    refine DL_q hns0 rfl (Qt_fieldAddr 0 rfl rfl) rfl ?_
    refine DL_q hns0 rfl (Qt_load1 rfl) rfl ?_
    refine DL_q hns0 rfl (Qt_move (.pointer _) rfl) rfl ?_
    refine DL_q hns0 rfl (Qt_nilCheck rfl) rfl ?_
    refine DL_q hns0 rfl (Qt_fieldAddr 2 rfl rfl) rfl ?_
    refine DL_q hns0 rfl (Qt_load1 rfl) rfl ?_
    refine DL_q hns0 rfl (Qt_neq rfl rfl) rfl ?_
    refine DL_q hns0 rfl (Qt_assign (.bool _) rfl) rfl ?_
    refine DL_nil ?_
    refine X_then ?_
    refine T_cond rfl (fun h42 => ?_) (fun h42 => ?_)
    ·
     have p42 := h42
     try simp only [decide_eq_true_eq, decide_eq_false_iff_not, Bool.not_eq_true', Bool.not_eq_false', Option.isNone_iff_eq_none, ne_eq, Decidable.not_not, Int.not_lt, Int.not_le] at p42
     refine T_seq ?_
     refine T_region ?_
     refine TL_q (Qt_build [] rfl (by kernel_rfl)) rfl ?_
     refine TL_n (Ef_storeN rfl rfl (?_))
     refine TL_q (Qt_assign (.int .i64 _) rfl) rfl ?_
     refine TL_nil ?_
     refine X_then ?_
     refine T_ret ?_
     refine X_block_ret ?_
     refine X_then_ret ?_
     have hck : chkC (ls.map BS.l) id asked.length waits who l = 6 := by
      unfold chkC
      rw [if_neg (by simpa using p21), if_neg (by rw [← hkd]; simpa using p26), if_neg (by rw [← hbd]; simpa using p37), if_pos (by rw [← hrep]; simpa using p42)]
     exact X_ret (⟨6, .zero, waits, who, es, c, ga, gc, got⟩ : TkY) [_, _] Try.results27 ⟨⟨_, rfl, res_cellN rfl⟩, rfl, trivial⟩ rfl (fun w hw => (Subs.st inferInstance w hw : St w0 (blk p (.cells (ClientV.mk (KeysV.mk ⟨sa, sc, ls⟩ rt) id seed need ⟨aa, (asked).length, ac⟩ ⟨ga, (got).length, gc⟩ waits ((who : Nat) : Int) (some m)).cells 141 (0, 0)) :: row (.slice aa (asked).length ac) 85 7 ((asked).flatMap ReqV.list) :: dat fs ⟨(asked).map ReqV.sig, [], []⟩ :: row (.slice ga (got).length gc) 31 5 ((got).flatMap ReplyV.list) :: blk m (mapO encR encW es c) :: H) w).addPure (TakeC.bad hg hck (by decide)))
    ·
     have p42 := h42
     try simp only [decide_eq_true_eq, decide_eq_false_iff_not, Bool.not_eq_true', Bool.not_eq_false', Option.isNone_iff_eq_none, ne_eq, Decidable.not_not, Int.not_lt, Int.not_le] at p42
     refine T_seq ?_
     refine T_draw (blk b8 (.cells (replyG x18.1.body.l).2.cells 31 (0, 0)) :: blk p (.cells (ClientV.mk (KeysV.mk ⟨sa, sc, ls⟩ rt) id seed need ⟨aa, (asked).length, ac⟩ ⟨ga, (got).length, gc⟩ waits ((who : Nat) : Int) (some m)).cells 141 (0, 0)) :: H) [(0, true), (1, true), (2, true), (3, true), (4, true), (5, true), (6, true), (7, true), (8, true), (9, true), (10, true), (11, true), (12, true), (13, true), (14, true), (15, true)] (by kernel_rfl) (by kernel_rfl) rfl (by kernel_rfl) (Subs.st inferInstance) (fun hns1 => ?_)
     refine DL_q hns1 rfl (Qt_move (.pointer _) rfl) rfl ?_
     refine DL_q hns1 rfl (Qt_nilCheck rfl) rfl ?_
     refine DL_q hns1 rfl (Qt_fieldAddr 38 rfl rfl) rfl ?_
     refine DL_q hns1 rfl (Qt_load1 rfl) rfl ?_
     refine DL_q hns1 rfl (Qt_not rfl) rfl ?_
     refine DL_q hns1 rfl (Qt_move (.bool _) rfl) rfl ?_
     refine DL_split 57 rfl (fun h57 => ?_) (fun h57 => ?_)
     ·
      have p57 := h57
      try simp only [decide_eq_true_eq, decide_eq_false_iff_not, Bool.not_eq_true', Bool.not_eq_false', Option.isNone_iff_eq_none, ne_eq, Decidable.not_not, Int.not_lt, Int.not_le] at p57
      refine DL_pass hns1 rfl rfl rfl h57 rfl ?_
      refine DL_pass hns1 rfl rfl rfl h57 rfl ?_
      refine DL_pass hns1 rfl rfl rfl h57 rfl ?_
      refine DL_pass hns1 rfl rfl rfl h57 rfl ?_
      refine DL_pass hns1 rfl rfl rfl h57 rfl ?_
      refine DL_pass hns1 rfl rfl rfl h57 rfl ?_
      refine DL_pass hns1 rfl rfl rfl h57 rfl ?_
      refine DL_pass hns1 rfl rfl rfl h57 rfl ?_
      refine DL_q hns1 rfl (Qt_pick_t (.bool _) rfl h57 rfl) rfl ?_
      refine DL_q hns1 rfl (Qt_assign (.bool _) rfl) rfl ?_
      refine DL_nil ?_
      refine X_then ?_
      refine T_cond_true rfl rfl ?_
      refine T_seq ?_
      refine T_region ?_
      refine TL_q (Qt_build [] rfl (by kernel_rfl)) rfl ?_
      refine TL_n (Ef_storeN rfl rfl (?_))
      refine TL_q (Qt_assign (.int .i64 _) rfl) rfl ?_
      refine TL_nil ?_
      refine X_then ?_
      refine T_ret ?_
      refine X_block_ret ?_
      refine X_then_ret ?_
      have hck : chkC (ls.map BS.l) id asked.length waits who l = 13 := by
       unfold chkC
       rw [if_neg (by simpa using p21), if_neg (by rw [← hkd]; simpa using p26), if_neg (by rw [← hbd]; simpa using p37), if_neg (by rw [← hrep]; simpa using p42), if_pos (by rw [← hrep]; first | (simp_all; done) | (simp_all; omega))]
      exact X_ret (⟨13, .zero, waits, who, es, c, ga, gc, got⟩ : TkY) [_, _] Try.results27 ⟨⟨_, rfl, res_cellN rfl⟩, rfl, trivial⟩ rfl (fun w hw => (Subs.st inferInstance w hw : St w0 (blk p (.cells (ClientV.mk (KeysV.mk ⟨sa, sc, ls⟩ rt) id seed need ⟨aa, (asked).length, ac⟩ ⟨ga, (got).length, gc⟩ waits ((who : Nat) : Int) (some m)).cells 141 (0, 0)) :: row (.slice aa (asked).length ac) 85 7 ((asked).flatMap ReqV.list) :: dat fs ⟨(asked).map ReqV.sig, [], []⟩ :: row (.slice ga (got).length gc) 31 5 ((got).flatMap ReplyV.list) :: blk m (mapO encR encW es c) :: H) w).addPure (TakeC.bad hg hck (by decide)))
     ·
      have p57 := h57
      try simp only [decide_eq_true_eq, decide_eq_false_iff_not, Bool.not_eq_true', Bool.not_eq_false', Option.isNone_iff_eq_none, ne_eq, Decidable.not_not, Int.not_lt, Int.not_le] at p57
      refine DL_qg hns1 rfl rfl rfl h57 (Qt_fieldAddr 1 rfl rfl) rfl ?_
      refine DL_qg hns1 rfl rfl rfl h57 (Qt_load1 rfl) rfl ?_
      refine DL_qg hns1 rfl rfl rfl h57 (Qt_move (.pointer _) rfl) rfl ?_
      refine DL_qg hns1 rfl rfl rfl h57 (Qt_nilCheck rfl) rfl ?_
      refine DL_qg hns1 rfl rfl rfl h57 (Qt_fieldAddr 36 rfl rfl) rfl ?_
      refine DL_qg hns1 rfl rfl rfl h57 (Qt_load1 rfl) rfl ?_
      refine DL_qg hns1 rfl rfl rfl h57 (Qt_len_slice rfl Try.underlying75) rfl ?_
      refine DL_qg hns1 rfl rfl rfl h57 (Qt_neq rfl rfl) rfl ?_
      refine DL_q hns1 rfl (Qt_pick_f (.bool _) rfl h57 rfl) rfl ?_
      refine DL_q hns1 rfl (Qt_assign (.bool _) rfl) rfl ?_
      refine DL_nil ?_
      refine X_then ?_
      refine T_cond rfl (fun h51 => ?_) (fun h51 => ?_)
      ·
       have p51 := h51
       try simp only [decide_eq_true_eq, decide_eq_false_iff_not, Bool.not_eq_true', Bool.not_eq_false', Option.isNone_iff_eq_none, ne_eq, Decidable.not_not, Int.not_lt, Int.not_le] at p51
       refine T_seq ?_
       refine T_region ?_
       refine TL_q (Qt_build [] rfl (by kernel_rfl)) rfl ?_
       refine TL_n (Ef_storeN rfl rfl (?_))
       refine TL_q (Qt_assign (.int .i64 _) rfl) rfl ?_
       refine TL_nil ?_
       refine X_then ?_
       refine T_ret ?_
       refine X_block_ret ?_
       refine X_then_ret ?_
       have hck : chkC (ls.map BS.l) id asked.length waits who l = 13 := by
        unfold chkC
        rw [if_neg (by simpa using p21), if_neg (by rw [← hkd]; simpa using p26), if_neg (by rw [← hbd]; simpa using p37), if_neg (by rw [← hrep]; simpa using p42), if_pos (by rw [← hrep]; first | (simp_all; done) | (simp_all; omega))]
       exact X_ret (⟨13, .zero, waits, who, es, c, ga, gc, got⟩ : TkY) [_, _] Try.results27 ⟨⟨_, rfl, res_cellN rfl⟩, rfl, trivial⟩ rfl (fun w hw => (Subs.st inferInstance w hw : St w0 (blk p (.cells (ClientV.mk (KeysV.mk ⟨sa, sc, ls⟩ rt) id seed need ⟨aa, (asked).length, ac⟩ ⟨ga, (got).length, gc⟩ waits ((who : Nat) : Int) (some m)).cells 141 (0, 0)) :: row (.slice aa (asked).length ac) 85 7 ((asked).flatMap ReqV.list) :: dat fs ⟨(asked).map ReqV.sig, [], []⟩ :: row (.slice ga (got).length gc) 31 5 ((got).flatMap ReplyV.list) :: blk m (mapO encR encW es c) :: H) w).addPure (TakeC.bad hg hck (by decide)))
      ·
       have p51 := h51
       try simp only [decide_eq_true_eq, decide_eq_false_iff_not, Bool.not_eq_true', Bool.not_eq_false', Option.isNone_iff_eq_none, ne_eq, Decidable.not_not, Int.not_lt, Int.not_le] at p51
       refine T_seq ?_
       refine T_region ?_
       refine TL_q (Qt_fieldAddr 2 rfl rfl) rfl ?_
       refine TL_q (Qt_load1 rfl) rfl ?_
       refine TL_q (Qt_fieldAddr 4 rfl rfl) rfl ?_
       refine TL_q (Qt_load1 rfl) rfl ?_
       refine TL_q (Qt_neq rfl rfl) rfl ?_
       refine TL_q (Qt_assign (.bool _) rfl) rfl ?_
       refine TL_nil ?_
       refine X_then ?_
       refine T_cond rfl (fun h68 => ?_) (fun h68 => ?_)
       ·
        have p68 := h68
        try simp only [decide_eq_true_eq, decide_eq_false_iff_not, Bool.not_eq_true', Bool.not_eq_false', Option.isNone_iff_eq_none, ne_eq, Decidable.not_not, Int.not_lt, Int.not_le] at p68
        refine T_seq ?_
        refine T_region ?_
        refine TL_q (Qt_build [] rfl (by kernel_rfl)) rfl ?_
        refine TL_n (Ef_storeN rfl rfl (?_))
        refine TL_q (Qt_assign (.int .i64 _) rfl) rfl ?_
        refine TL_nil ?_
        refine X_then ?_
        refine T_ret ?_
        refine X_block_ret ?_
        refine X_then_ret ?_
        have hck : chkC (ls.map BS.l) id asked.length waits who l = 8 := by
         unfold chkC
         rw [if_neg (by simpa using p21), if_neg (by rw [← hkd]; simpa using p26), if_neg (by rw [← hbd]; simpa using p37), if_neg (by rw [← hrep]; simpa using p42), if_neg (by rw [← hrep]; first | (simp_all; done) | (simp_all; omega)), if_pos (by rw [← hrep, ← hsl]; simpa using p68)]
        exact X_ret (⟨8, .zero, waits, who, es, c, ga, gc, got⟩ : TkY) [_, _] Try.results27 ⟨⟨_, rfl, res_cellN rfl⟩, rfl, trivial⟩ rfl (fun w hw => (Subs.st inferInstance w hw : St w0 (blk p (.cells (ClientV.mk (KeysV.mk ⟨sa, sc, ls⟩ rt) id seed need ⟨aa, (asked).length, ac⟩ ⟨ga, (got).length, gc⟩ waits ((who : Nat) : Int) (some m)).cells 141 (0, 0)) :: row (.slice aa (asked).length ac) 85 7 ((asked).flatMap ReqV.list) :: dat fs ⟨(asked).map ReqV.sig, [], []⟩ :: row (.slice ga (got).length gc) 31 5 ((got).flatMap ReplyV.list) :: blk m (mapO encR encW es c) :: H) w).addPure (TakeC.bad hg hck (by decide)))
       ·
        have p68 := h68
        try simp only [decide_eq_true_eq, decide_eq_false_iff_not, Bool.not_eq_true', Bool.not_eq_false', Option.isNone_iff_eq_none, ne_eq, Decidable.not_not, Int.not_lt, Int.not_le] at p68
        refine T_seq ?_
        refine T_draw (blk b6 (.cells x18.1.cells 45 (0, 0)) :: blk p (.cells (ClientV.mk (KeysV.mk ⟨sa, sc, ls⟩ rt) id seed need ⟨aa, (asked).length, ac⟩ ⟨ga, (got).length, gc⟩ waits ((who : Nat) : Int) (some m)).cells 141 (0, 0)) :: H) [(0, true), (1, true), (2, true), (3, true), (4, true), (5, true), (6, true), (7, true), (8, true), (9, true)] (by kernel_rfl) (by kernel_rfl) rfl (by kernel_rfl) (Subs.st inferInstance) (fun hns2 => ?_)
        refine DL_q hns2 rfl (Qt_move (.pointer _) rfl) rfl ?_
        refine DL_q hns2 rfl (Qt_nilCheck rfl) rfl ?_
        refine DL_q hns2 rfl (Qt_fieldAddr 39 rfl rfl) rfl ?_
        refine DL_q hns2 rfl (Qt_load1 rfl) rfl ?_
        refine DL_q hns2 rfl (Qt_fieldAddr 1 rfl rfl) rfl ?_
        refine DL_q hns2 rfl (Qt_load1 rfl) rfl ?_
        refine DL_q hns2 rfl (Qt_shrN f rfl (show Value.int .i64 x18.1.frm = Value.int .i64 (f : Int) from by rw [hfe]) (by show f ≤ 16; omega)) rfl ?_
        refine DL_q hns2 rfl (Qt_andN (b := 1) rfl rfl rfl (by have := Nat.div_le_self who (2 ^ f); show _ < 2 ^ 16; omega) (by decide)) rfl ?_
        rw [Nat.and_one_is_mod]
        refine DL_q hns2 rfl (Qt_neq rfl rfl) rfl ?_
        refine DL_q hns2 rfl (Qt_assign (.bool _) rfl) rfl ?_
        refine DL_nil ?_
        refine X_then ?_
        refine T_cond rfl (fun h75 => ?_) (fun h75 => ?_)
        ·
         have p75 := h75
         try simp only [decide_eq_true_eq, decide_eq_false_iff_not, Bool.not_eq_true', Bool.not_eq_false', Option.isNone_iff_eq_none, ne_eq, Decidable.not_not, Int.not_lt, Int.not_le] at p75
         refine T_seq ?_
         refine T_region ?_
         refine TL_q (Qt_build [] rfl (by kernel_rfl)) rfl ?_
         refine TL_n (Ef_storeN rfl rfl (?_))
         refine TL_q (Qt_assign (.int .i64 _) rfl) rfl ?_
         refine TL_nil ?_
         refine X_then ?_
         refine T_ret ?_
         refine X_block_ret ?_
         refine X_then_ret ?_
         have hck : chkC (ls.map BS.l) id asked.length waits who l = 7 := by
          unfold chkC
          rw [if_neg (by simpa using p21), if_neg (by rw [← hkd]; simpa using p26), if_neg (by rw [← hbd]; simpa using p37), if_neg (by rw [← hrep]; simpa using p42), if_neg (by rw [← hrep]; first | (simp_all; done) | (simp_all; omega)), if_neg (by rw [← hrep, ← hsl]; simpa using p68), if_pos (by rw [← hff]; first | omega | (intro h0; exact p75 (by rw [h0]; rfl)) | (intro h0; simp [h0] at h75))]
         exact X_ret (⟨7, .zero, waits, who, es, c, ga, gc, got⟩ : TkY) [_, _] Try.results27 ⟨⟨_, rfl, res_cellN rfl⟩, rfl, trivial⟩ rfl (fun w hw => (Subs.st inferInstance w hw : St w0 (blk p (.cells (ClientV.mk (KeysV.mk ⟨sa, sc, ls⟩ rt) id seed need ⟨aa, (asked).length, ac⟩ ⟨ga, (got).length, gc⟩ waits ((who : Nat) : Int) (some m)).cells 141 (0, 0)) :: row (.slice aa (asked).length ac) 85 7 ((asked).flatMap ReqV.list) :: dat fs ⟨(asked).map ReqV.sig, [], []⟩ :: row (.slice ga (got).length gc) 31 5 ((got).flatMap ReplyV.list) :: blk m (mapO encR encW es c) :: H) w).addPure (TakeC.bad hg hck (by decide)))
        ·
         have p75 := h75
         try simp only [decide_eq_true_eq, decide_eq_false_iff_not, Bool.not_eq_true', Bool.not_eq_false', Option.isNone_iff_eq_none, ne_eq, Decidable.not_not, Int.not_lt, Int.not_le] at p75
         refine T_skip ?_
         refine X_block ?_
         refine X_then ?_
         refine T_seq ?_
         refine T_draw (blk b6 (.cells x18.1.cells 45 (0, 0)) :: H) [(0, true), (1, true), (2, true), (4, true), (5, true), (6, true), (3, false), (7, true), (8, true), (9, true), (10, false)] (by kernel_rfl) (by kernel_rfl) rfl (by kernel_rfl) (Subs.st inferInstance) (fun hns3 => ?_)
         refine DL_q hns3 rfl (Qt_move (.pointer _) rfl) rfl ?_
         refine DL_q hns3 rfl (Qt_nilCheck rfl) rfl ?_
         refine DL_q hns3 rfl (Qt_fieldAddr 39 rfl rfl) rfl ?_
         refine DL_q hns3 rfl (Qt_fieldAddr 1 rfl rfl) rfl ?_
         refine DL_q hns3 rfl (Qt_load1 rfl) rfl ?_
         refine DL_q hns3 rfl (Qt_val (Qt_shlN (k := .u16) (a := 1) (m := f) rfl (show Value.int .i64 x18.1.frm = Value.int .i64 (f : Int) from by rw [hfe]) (by show f ≤ 16; omega) (by show 1 * 2 ^ f < 2 ^ 16; omega) rfl) (show Value.int .u16 ((1 * 2 ^ f : Nat) : Int) = Value.int .u16 ((2 ^ f : Nat) : Int) from by rw [Nat.one_mul])) rfl ?_
         refine DL_e rfl rfl (Ef_of_Qt (Qt_load1 rfl) (⟨(Subs.st inferInstance), ?_⟩))
         refine DL_q hns3 rfl (Qt_orN rfl rfl rfl (by show _ < 2 ^ 16; omega) (by show _ < 2 ^ 16; omega)) rfl ?_
         refine DL_q hns3 rfl (Qt_nilCheck rfl) rfl ?_
         refine DL_q hns3 rfl (Qt_fieldAddr 39 rfl rfl) rfl ?_
         refine DL_n rfl (Ef_store1 (.int .u16 _) rfl rfl (⟨(Subs.st inferInstance), ?_⟩))
         refine DL_nil ?_
         refine X_then ?_
         refine T_seq ?_
         refine T_drawF (blk b6 (.cells x18.1.cells 45 (0, 0)) :: blk b8 (.cells (replyG x18.1.body.l).2.cells 31 (0, 0)) :: blk p (.cells (ClientV.mk (KeysV.mk ⟨sa, sc, ls⟩ rt) id seed need ⟨aa, (asked).length, ac⟩ ⟨ga, (got).length, gc⟩ waits (((who ||| 2 ^ f) : Nat) : Int) (some m)).cells 141 (0, 0)) :: H) (by kernel_rfl) (Subs.st inferInstance) ?_
         refine DLF_q (i := 0) (by kernel_rfl) rfl (by kernel_rfl) (by kernel_rfl) (Qt_move (.pointer _) rfl) rfl ?_
         refine DLF_q (i := 1) (by kernel_rfl) rfl (by kernel_rfl) (by kernel_rfl) (Qt_nilCheck rfl) rfl ?_
         refine DLF_q (i := 2) (by kernel_rfl) rfl (by kernel_rfl) (by kernel_rfl) (Qt_fieldAddr 40 rfl rfl) rfl ?_
         refine DLF_q (i := 3) (by kernel_rfl) rfl (by kernel_rfl) (by kernel_rfl) (Qt_load1 rfl) rfl ?_
         refine DLF_q (i := 4) (by kernel_rfl) rfl (by kernel_rfl) (by kernel_rfl) (Qt_loadN rfl rfl) rfl ?_
         refine DLF_q (i := 6) (by kernel_rfl) rfl (by kernel_rfl) (by kernel_rfl) (Qt_fieldAddr 1 rfl rfl) rfl ?_
         refine DLF_q (i := 7) (by kernel_rfl) rfl (by kernel_rfl) (by kernel_rfl) (Qt_load1 rfl) rfl ?_
         refine DLF_q (i := 8) (by kernel_rfl) rfl (by kernel_rfl) (by kernel_rfl) (Qt_val (Qt_shlN (k := .u16) (a := 1) (m := f) rfl (show Value.int .i64 x18.1.frm = Value.int .i64 (f : Int) from by rw [hfe]) (by show f ≤ 16; omega) (by show 1 * 2 ^ f < 2 ^ 16; omega) rfl) (show Value.int .u16 ((1 * 2 ^ f : Nat) : Int) = Value.int .u16 ((2 ^ f : Nat) : Int) from by rw [Nat.one_mul])) rfl ?_
         refine DLF_2 (i := 5) (j := 10) (by kernel_rfl) ?_ ?_
         ·
          refine DLS_e rfl rfl (Ef_of_Qt (Qt_lookup1 (key := (replyG x18.1.body.l).2) (enc := encR) (ev := encW) ((0 : Nat)) rfl rfl Try.underlying139 ((inferInstance : TyZ Try.prog 22 (.int .u16 0)).ok)) ⟨(Subs.st inferInstance), ?_⟩)
          try simp only [getE_putK, if_true, Option.getD_some]
          refine DLF_q (i := 9) (by kernel_rfl) rfl (by kernel_rfl) (by kernel_rfl) (Qt_orN rfl rfl rfl (by show _ < 2 ^ 16; omega) (by show _ < 2 ^ 16; omega)) rfl ?_
          refine DLF_1 (i := 10) (by kernel_rfl) ?_
          refine DLS_e rfl rfl (Ef_mapEntry (key := (replyG x18.1.body.l).2) (enc := encR) (ev := encW) (0 : Nat) rfl rfl Try.underlying139 ((inferInstance : TyZ Try.prog 22 (.int .u16 0)).ok) (⟨(Subs.st inferInstance), ?_⟩))
          refine DLF_q (i := 11) (by kernel_rfl) rfl (by kernel_rfl) (by kernel_rfl) (Qt_extract rfl) rfl ?_
          refine DLF_1 (i := 12) (by kernel_rfl) ?_
          refine DLS_n rfl (Ef_entryStore (key := (replyG x18.1.body.l).2) (enc := encR) (ev := encW) (((getE es (replyG x18.1.body.l).2).getD 0) ||| 2 ^ f) rfl rfl rfl (putE_goodK hg _ _).born (putE_find _ _ _ _) (⟨(Subs.st inferInstance), ?_⟩))
          refine DLF_nil (by kernel_rfl) ?_
          refine X_then ?_
          refine T_seq ?_
          refine T_seq ?_
          refine T_draw (blk b8 (.cells (replyG x18.1.body.l).2.cells 31 (0, 0)) :: blk p (.cells (ClientV.mk (KeysV.mk ⟨sa, sc, ls⟩ rt) id seed need ⟨aa, (asked).length, ac⟩ ⟨ga, (got).length, gc⟩ waits (((who ||| 2 ^ f) : Nat) : Int) (some m)).cells 141 (0, 0)) :: blk m (mapO encR encW (putE (putE es (replyG x18.1.body.l).2 ((getE es (replyG x18.1.body.l).2).getD 0) c) (replyG x18.1.body.l).2 (((getE es (replyG x18.1.body.l).2).getD 0) ||| 2 ^ f) (clockE es (replyG x18.1.body.l).2 c)) (clockE es (replyG x18.1.body.l).2 c)) :: H) [(0, true), (1, true), (2, true), (3, true), (4, true), (5, true), (7, true), (8, true), (9, true), (10, true), (6, false), (11, true)] (by kernel_rfl) (by kernel_rfl) rfl (by kernel_rfl) (Subs.st inferInstance) (fun hns4 => ?_)
          refine DL_q hns4 rfl (Qt_move (.pointer _) rfl) rfl ?_
          refine DL_q hns4 rfl (Qt_nilCheck rfl) rfl ?_
          refine DL_q hns4 rfl (Qt_fieldAddr 40 rfl rfl) rfl ?_
          refine DL_q hns4 rfl (Qt_load1 rfl) rfl ?_
          refine DL_q hns4 rfl (Qt_loadN rfl rfl) rfl ?_
          refine DL_q hns4 rfl (Qt_lookup1 (key := (replyG x18.1.body.l).2) (enc := encR) (ev := encW) ((0 : Nat)) rfl rfl Try.underlying139 ((inferInstance : TyZ Try.prog 22 (.int .u16 0)).ok)) rfl ?_
          rw [show (getE (putE (putE es (replyG x18.1.body.l).2 ((getE es (replyG x18.1.body.l).2).getD 0) c) (replyG x18.1.body.l).2 (((getE es (replyG x18.1.body.l).2).getD 0) ||| 2 ^ f) (clockE es (replyG x18.1.body.l).2 c)) (replyG x18.1.body.l).2).getD 0 = (((getE es (replyG x18.1.body.l).2).getD 0) ||| 2 ^ f) from by rw [put2_get, if_pos rfl]]
          refine DL_q hns4 rfl (Qt_move (.pointer _) rfl) rfl ?_
          refine DL_q hns4 rfl (Qt_nilCheck rfl) rfl ?_
          refine DL_q hns4 rfl (Qt_fieldAddr 35 rfl rfl) rfl ?_
          refine DL_q hns4 rfl (Qt_load1 rfl) rfl ?_
          refine DL_e rfl rfl (Ef_call (ones_c (n := (((getE es (replyG x18.1.body.l).2).getD 0) ||| 2 ^ f)) hv16) rfl (fun x114 => ⟨(Subs.st inferInstance), ?_⟩))
          refine DL_q hns4 rfl (Qt_lss rfl rfl) rfl ?_
          refine DL_nil ?_
          refine X_then ?_
          refine T_cond rfl (fun h119 => ?_) (fun h119 => ?_)
          ·
           have p119 := h119
           try simp only [decide_eq_true_eq, decide_eq_false_iff_not, Bool.not_eq_true', Bool.not_eq_false', Option.isNone_iff_eq_none, ne_eq, Decidable.not_not, Int.not_lt, Int.not_le] at p119
           refine T_seq ?_
           refine T_region ?_
           refine TL_q (Qt_build [] rfl (by kernel_rfl)) rfl ?_
           refine TL_n (Ef_storeN rfl rfl (?_))
           refine TL_q (Qt_assign (.int .i64 _) rfl) rfl ?_
           refine TL_nil ?_
           refine X_then ?_
           refine T_ret ?_
           refine X_then_ret ?_
           have hck : chkC (ls.map BS.l) id asked.length waits who l = 0 := by
            unfold chkC
            rw [if_neg (by simpa using p21), if_neg (by rw [← hkd]; simpa using p26), if_neg (by rw [← hbd]; simpa using p37), if_neg (by rw [← hrep]; simpa using p42), if_neg (by rw [← hrep]; first | (simp_all; done) | (simp_all; omega)), if_neg (by rw [← hrep, ← hsl]; simpa using p68), if_neg (fun h0 => h0 (by rw [← hff]; exact_mod_cast p75))]
           exact X_ret (⟨1, .zero, waits, who ||| 2 ^ f, (putE (putE es (replyG x18.1.body.l).2 ((getE es (replyG x18.1.body.l).2).getD 0) c) (replyG x18.1.body.l).2 (((getE es (replyG x18.1.body.l).2).getD 0) ||| 2 ^ f) (clockE es (replyG x18.1.body.l).2 c)), (clockE es (replyG x18.1.body.l).2 c), ga, gc, got⟩ : TkY) [_, _] Try.results27 ⟨⟨_, rfl, res_cellN rfl⟩, rfl, trivial⟩ rfl (fun w hw => (Subs.st inferInstance w hw : St w0 (blk p (.cells (ClientV.mk (KeysV.mk ⟨sa, sc, ls⟩ rt) id seed need ⟨aa, (asked).length, ac⟩ ⟨ga, (got).length, gc⟩ waits (((who ||| 2 ^ f) : Nat) : Int) (some m)).cells 141 (0, 0)) :: row (.slice aa (asked).length ac) 85 7 ((asked).flatMap ReqV.list) :: dat fs ⟨(asked).map ReqV.sig, [], []⟩ :: row (.slice ga (got).length gc) 31 5 ((got).flatMap ReplyV.list) :: blk m (mapO encR encW (putE (putE es (replyG x18.1.body.l).2 ((getE es (replyG x18.1.body.l).2).getD 0) c) (replyG x18.1.body.l).2 (((getE es (replyG x18.1.body.l).2).getD 0) ||| 2 ^ f) (clockE es (replyG x18.1.body.l).2 c)) (clockE es (replyG x18.1.body.l).2 c)) :: H) w).addPure ⟨put2_good hg _ _ _, fun h => absurd hck h, fun _ => ⟨by show who ||| 2 ^ f = _; rw [hff], fun key => by rw [← hrep, ← hff]; exact put2_get es c (clockE es (replyG x18.1.body.l).2 c) (replyG x18.1.body.l).2 ((getE es (replyG x18.1.body.l).2).getD 0) (((getE es (replyG x18.1.body.l).2).getD 0) ||| 2 ^ f) key, fun _ => ⟨rfl, rfl, rfl, rfl⟩, fun hle => absurd hle (by rw [← hrep, ← hff]; omega)⟩⟩)
          ·
           have p119 := h119
           try simp only [decide_eq_true_eq, decide_eq_false_iff_not, Bool.not_eq_true', Bool.not_eq_false', Option.isNone_iff_eq_none, ne_eq, Decidable.not_not, Int.not_lt, Int.not_le] at p119
           refine T_skip ?_
           refine X_then ?_
           refine T_seq ?_
           refine T_region ?_
           refine TL_q (Qt_move (.pointer _) rfl) rfl ?_
           refine TL_q (Qt_nilCheck rfl) rfl ?_
           refine TL_q (Qt_fieldAddr 38 rfl rfl) rfl ?_
           refine TL_n (Ef_store1 (.bool _) rfl rfl (?_))
           refine TL_nil ?_
           refine X_then ?_
           refine T_seq ?_
           refine T_drawF (blk b8 (.cells (replyG x18.1.body.l).2.cells 31 (0, 0)) :: H) (by kernel_rfl) (Subs.st inferInstance) ?_
           refine DLF_q (i := 0) (by kernel_rfl) rfl (by kernel_rfl) (by kernel_rfl) (Qt_move (.pointer _) rfl) rfl ?_
           refine DLF_q (i := 1) (by kernel_rfl) rfl (by kernel_rfl) (by kernel_rfl) (Qt_move (.pointer _) rfl) rfl ?_
           refine DLF_q (i := 2) (by kernel_rfl) rfl (by kernel_rfl) (by kernel_rfl) (Qt_nilCheck rfl) rfl ?_
           refine DLF_q (i := 3) (by kernel_rfl) rfl (by kernel_rfl) (by kernel_rfl) (Qt_fieldAddr 37 rfl rfl) rfl ?_
           refine DLF_q (i := 5) (by kernel_rfl) rfl (by kernel_rfl) (by kernel_rfl) (Qt_loadN rfl rfl) rfl ?_
           refine DLF_2 (i := 4) (j := 6) (by kernel_rfl) ?_ ?_
           ·
            refine DLS_e rfl rfl (Ef_of_Qt (Qt_load1 rfl) ⟨(Subs.st inferInstance), ?_⟩)
            refine DLF_1 (i := 6) (by kernel_rfl) ?_
            refine DLS_e rfl rfl (Ef_sliceN (m := ([(replyG x18.1.body.l).2] : List ReplyV).length) [.agg (replyG x18.1.body.l).2.cells] (([(replyG x18.1.body.l).2] : List ReplyV).flatMap ReplyV.list) rfl rfl rfl (by rfl) (by simp [Value.cells, ReplyV.size]) rfl rfl (fun a130 c130 => ⟨(Subs.st inferInstance), ?_⟩))
            refine DLF_1 (i := 7) (by kernel_rfl) ?_
            refine DLS_e rfl rfl (Ef_appendS ReplyV.list (sv := .slice _ _ _) (xv := .slice _ _ _) (xs := got) (ys := [(replyG x18.1.body.l).2]) ReplyV.list_len ReplyV.list_one rfl rfl (by simp; omega) rfl rfl (fun a131 c131 => ⟨(Subs.st inferInstance), ?_⟩))
            refine DLF_q (i := 8) (by kernel_rfl) rfl (by kernel_rfl) (by kernel_rfl) (Qt_nilCheck rfl) rfl ?_
            refine DLF_q (i := 9) (by kernel_rfl) rfl (by kernel_rfl) (by kernel_rfl) (Qt_fieldAddr 37 rfl rfl) rfl ?_
            refine DLF_1 (i := 10) (by kernel_rfl) ?_
            refine DLS_n rfl (Ef_store1 (.slice _ _ _) rfl rfl (⟨(Subs.st inferInstance), ?_⟩))
            refine DLF_nil (by kernel_rfl) ?_
            refine X_then ?_
            refine T_seq ?_
            refine T_region ?_
            refine TL_q (Qt_loadN rfl rfl) rfl ?_
            refine TL_n (Ef_storeN rfl rfl (?_))
            refine TL_q (Qt_assign (.int .i64 _) rfl) rfl ?_
            refine TL_nil ?_
            refine X_then ?_
            refine T_ret ?_
            have hck : chkC (ls.map BS.l) id asked.length waits who l = 0 := by
             unfold chkC
             rw [if_neg (by simpa using p21), if_neg (by rw [← hkd]; simpa using p26), if_neg (by rw [← hbd]; simpa using p37), if_neg (by rw [← hrep]; simpa using p42), if_neg (by rw [← hrep]; first | (simp_all; done) | (simp_all; omega)), if_neg (by rw [← hrep, ← hsl]; simpa using p68), if_neg (fun h0 => h0 (by rw [← hff]; exact_mod_cast p75))]
            exact X_ret (⟨0, (replyG x18.1.body.l).2, false, who ||| 2 ^ f, (putE (putE es (replyG x18.1.body.l).2 ((getE es (replyG x18.1.body.l).2).getD 0) c) (replyG x18.1.body.l).2 (((getE es (replyG x18.1.body.l).2).getD 0) ||| 2 ^ f) (clockE es (replyG x18.1.body.l).2 c)), (clockE es (replyG x18.1.body.l).2 c), a131, c131, got ++ [(replyG x18.1.body.l).2]⟩ : TkY) [_, _] Try.results27 ⟨⟨_, rfl, res_cellN rfl⟩, rfl, trivial⟩ rfl (fun w hw => (Subs.st inferInstance w hw : St w0 (blk p (.cells (ClientV.mk (KeysV.mk ⟨sa, sc, ls⟩ rt) id seed need ⟨aa, (asked).length, ac⟩ ⟨a131, (got ++ [(replyG x18.1.body.l).2]).length, c131⟩ false (((who ||| 2 ^ f) : Nat) : Int) (some m)).cells 141 (0, 0)) :: row (.slice aa (asked).length ac) 85 7 ((asked).flatMap ReqV.list) :: dat fs ⟨(asked).map ReqV.sig, [], []⟩ :: row (.slice a131 (got ++ [(replyG x18.1.body.l).2]).length c131) 31 5 ((got ++ [(replyG x18.1.body.l).2]).flatMap ReplyV.list) :: blk m (mapO encR encW (putE (putE es (replyG x18.1.body.l).2 ((getE es (replyG x18.1.body.l).2).getD 0) c) (replyG x18.1.body.l).2 (((getE es (replyG x18.1.body.l).2).getD 0) ||| 2 ^ f) (clockE es (replyG x18.1.body.l).2 c)) (clockE es (replyG x18.1.body.l).2 c)) :: H) w).addPure ⟨put2_good hg _ _ _, fun h => absurd hck h, fun _ => ⟨by show who ||| 2 ^ f = _; rw [hff], fun key => by rw [← hrep, ← hff]; exact put2_get es c (clockE es (replyG x18.1.body.l).2 c) (replyG x18.1.body.l).2 ((getE es (replyG x18.1.body.l).2).getD 0) (((getE es (replyG x18.1.body.l).2).getD 0) ||| 2 ^ f) key, fun hlt => absurd hlt (by rw [← hrep, ← hff]; omega), fun _ => ⟨rfl, hrep, rfl, by rw [← hrep]⟩⟩⟩)
           ·
            refine DLS_e rfl rfl (Ef_sliceN (m := ([(replyG x18.1.body.l).2] : List ReplyV).length) [.agg (replyG x18.1.body.l).2.cells] (([(replyG x18.1.body.l).2] : List ReplyV).flatMap ReplyV.list) rfl rfl rfl (by rfl) (by simp [Value.cells, ReplyV.size]) rfl rfl (fun a130 c130 => ⟨(Subs.st inferInstance), ?_⟩))
            refine DLF_1 (i := 4) (by kernel_rfl) ?_
            refine DLS_e rfl rfl (Ef_of_Qt (Qt_load1 rfl) ⟨(Subs.st inferInstance), ?_⟩)
            refine DLF_1 (i := 7) (by kernel_rfl) ?_
            refine DLS_e rfl rfl (Ef_appendS ReplyV.list (sv := .slice _ _ _) (xv := .slice _ _ _) (xs := got) (ys := [(replyG x18.1.body.l).2]) ReplyV.list_len ReplyV.list_one rfl rfl (by simp; omega) rfl rfl (fun a131 c131 => ⟨(Subs.st inferInstance), ?_⟩))
            refine DLF_q (i := 8) (by kernel_rfl) rfl (by kernel_rfl) (by kernel_rfl) (Qt_nilCheck rfl) rfl ?_
            refine DLF_q (i := 9) (by kernel_rfl) rfl (by kernel_rfl) (by kernel_rfl) (Qt_fieldAddr 37 rfl rfl) rfl ?_
            refine DLF_1 (i := 10) (by kernel_rfl) ?_
            refine DLS_n rfl (Ef_store1 (.slice _ _ _) rfl rfl (⟨(Subs.st inferInstance), ?_⟩))
            refine DLF_nil (by kernel_rfl) ?_
            refine X_then ?_
            refine T_seq ?_
            refine T_region ?_
            refine TL_q (Qt_loadN rfl rfl) rfl ?_
            refine TL_n (Ef_storeN rfl rfl (?_))
            refine TL_q (Qt_assign (.int .i64 _) rfl) rfl ?_
            refine TL_nil ?_
            refine X_then ?_
            refine T_ret ?_
            have hck : chkC (ls.map BS.l) id asked.length waits who l = 0 := by
             unfold chkC
             rw [if_neg (by simpa using p21), if_neg (by rw [← hkd]; simpa using p26), if_neg (by rw [← hbd]; simpa using p37), if_neg (by rw [← hrep]; simpa using p42), if_neg (by rw [← hrep]; first | (simp_all; done) | (simp_all; omega)), if_neg (by rw [← hrep, ← hsl]; simpa using p68), if_neg (fun h0 => h0 (by rw [← hff]; exact_mod_cast p75))]
            exact X_ret (⟨0, (replyG x18.1.body.l).2, false, who ||| 2 ^ f, (putE (putE es (replyG x18.1.body.l).2 ((getE es (replyG x18.1.body.l).2).getD 0) c) (replyG x18.1.body.l).2 (((getE es (replyG x18.1.body.l).2).getD 0) ||| 2 ^ f) (clockE es (replyG x18.1.body.l).2 c)), (clockE es (replyG x18.1.body.l).2 c), a131, c131, got ++ [(replyG x18.1.body.l).2]⟩ : TkY) [_, _] Try.results27 ⟨⟨_, rfl, res_cellN rfl⟩, rfl, trivial⟩ rfl (fun w hw => (Subs.st inferInstance w hw : St w0 (blk p (.cells (ClientV.mk (KeysV.mk ⟨sa, sc, ls⟩ rt) id seed need ⟨aa, (asked).length, ac⟩ ⟨a131, (got ++ [(replyG x18.1.body.l).2]).length, c131⟩ false (((who ||| 2 ^ f) : Nat) : Int) (some m)).cells 141 (0, 0)) :: row (.slice aa (asked).length ac) 85 7 ((asked).flatMap ReqV.list) :: dat fs ⟨(asked).map ReqV.sig, [], []⟩ :: row (.slice a131 (got ++ [(replyG x18.1.body.l).2]).length c131) 31 5 ((got ++ [(replyG x18.1.body.l).2]).flatMap ReplyV.list) :: blk m (mapO encR encW (putE (putE es (replyG x18.1.body.l).2 ((getE es (replyG x18.1.body.l).2).getD 0) c) (replyG x18.1.body.l).2 (((getE es (replyG x18.1.body.l).2).getD 0) ||| 2 ^ f) (clockE es (replyG x18.1.body.l).2 c)) (clockE es (replyG x18.1.body.l).2 c)) :: H) w).addPure ⟨put2_good hg _ _ _, fun h => absurd hck h, fun _ => ⟨by show who ||| 2 ^ f = _; rw [hff], fun key => by rw [← hrep, ← hff]; exact put2_get es c (clockE es (replyG x18.1.body.l).2 c) (replyG x18.1.body.l).2 ((getE es (replyG x18.1.body.l).2).getD 0) (((getE es (replyG x18.1.body.l).2).getD 0) ||| 2 ^ f) key, fun hlt => absurd hlt (by rw [← hrep, ← hff]; omega), fun _ => ⟨rfl, hrep, rfl, by rw [← hrep]⟩⟩⟩)
         ·
          refine DLS_e rfl rfl (Ef_mapEntry (key := (replyG x18.1.body.l).2) (enc := encR) (ev := encW) (0 : Nat) rfl rfl Try.underlying139 ((inferInstance : TyZ Try.prog 22 (.int .u16 0)).ok) (⟨(Subs.st inferInstance), ?_⟩))
          refine DLF_q (i := 11) (by kernel_rfl) rfl (by kernel_rfl) (by kernel_rfl) (Qt_extract rfl) rfl ?_
          refine DLF_1 (i := 5) (by kernel_rfl) ?_
          refine DLS_e rfl rfl (Ef_of_Qt (Qt_lookup1 (key := (replyG x18.1.body.l).2) (enc := encR) (ev := encW) ((0 : Nat)) rfl rfl Try.underlying139 ((inferInstance : TyZ Try.prog 22 (.int .u16 0)).ok)) ⟨(Subs.st inferInstance), ?_⟩)
          try simp only [getE_putK, if_true, Option.getD_some]
          refine DLF_q (i := 9) (by kernel_rfl) rfl (by kernel_rfl) (by kernel_rfl) (Qt_orN rfl rfl rfl (by show _ < 2 ^ 16; omega) (by show _ < 2 ^ 16; omega)) rfl ?_
          refine DLF_1 (i := 12) (by kernel_rfl) ?_
          refine DLS_n rfl (Ef_entryStore (key := (replyG x18.1.body.l).2) (enc := encR) (ev := encW) (((getE es (replyG x18.1.body.l).2).getD 0) ||| 2 ^ f) rfl rfl rfl (putE_goodK hg _ _).born (putE_find _ _ _ _) (⟨(Subs.st inferInstance), ?_⟩))
          refine DLF_nil (by kernel_rfl) ?_
          refine X_then ?_
          refine T_seq ?_
          refine T_seq ?_
          refine T_draw (blk b8 (.cells (replyG x18.1.body.l).2.cells 31 (0, 0)) :: blk p (.cells (ClientV.mk (KeysV.mk ⟨sa, sc, ls⟩ rt) id seed need ⟨aa, (asked).length, ac⟩ ⟨ga, (got).length, gc⟩ waits (((who ||| 2 ^ f) : Nat) : Int) (some m)).cells 141 (0, 0)) :: blk m (mapO encR encW (putE (putE es (replyG x18.1.body.l).2 ((getE es (replyG x18.1.body.l).2).getD 0) c) (replyG x18.1.body.l).2 (((getE es (replyG x18.1.body.l).2).getD 0) ||| 2 ^ f) (clockE es (replyG x18.1.body.l).2 c)) (clockE es (replyG x18.1.body.l).2 c)) :: H) [(0, true), (1, true), (2, true), (3, true), (4, true), (5, true), (7, true), (8, true), (9, true), (10, true), (6, false), (11, true)] (by kernel_rfl) (by kernel_rfl) rfl (by kernel_rfl) (Subs.st inferInstance) (fun hns5 => ?_)
          refine DL_q hns5 rfl (Qt_move (.pointer _) rfl) rfl ?_
          refine DL_q hns5 rfl (Qt_nilCheck rfl) rfl ?_
          refine DL_q hns5 rfl (Qt_fieldAddr 40 rfl rfl) rfl ?_
          refine DL_q hns5 rfl (Qt_load1 rfl) rfl ?_
          refine DL_q hns5 rfl (Qt_loadN rfl rfl) rfl ?_
          refine DL_q hns5 rfl (Qt_lookup1 (key := (replyG x18.1.body.l).2) (enc := encR) (ev := encW) ((0 : Nat)) rfl rfl Try.underlying139 ((inferInstance : TyZ Try.prog 22 (.int .u16 0)).ok)) rfl ?_
          rw [show (getE (putE (putE es (replyG x18.1.body.l).2 ((getE es (replyG x18.1.body.l).2).getD 0) c) (replyG x18.1.body.l).2 (((getE es (replyG x18.1.body.l).2).getD 0) ||| 2 ^ f) (clockE es (replyG x18.1.body.l).2 c)) (replyG x18.1.body.l).2).getD 0 = (((getE es (replyG x18.1.body.l).2).getD 0) ||| 2 ^ f) from by rw [put2_get, if_pos rfl]]
          refine DL_q hns5 rfl (Qt_move (.pointer _) rfl) rfl ?_
          refine DL_q hns5 rfl (Qt_nilCheck rfl) rfl ?_
          refine DL_q hns5 rfl (Qt_fieldAddr 35 rfl rfl) rfl ?_
          refine DL_q hns5 rfl (Qt_load1 rfl) rfl ?_
          refine DL_e rfl rfl (Ef_call (ones_c (n := (((getE es (replyG x18.1.body.l).2).getD 0) ||| 2 ^ f)) hv16) rfl (fun x114 => ⟨(Subs.st inferInstance), ?_⟩))
          refine DL_q hns5 rfl (Qt_lss rfl rfl) rfl ?_
          refine DL_nil ?_
          refine X_then ?_
          refine T_cond rfl (fun h119 => ?_) (fun h119 => ?_)
          ·
           have p119 := h119
           try simp only [decide_eq_true_eq, decide_eq_false_iff_not, Bool.not_eq_true', Bool.not_eq_false', Option.isNone_iff_eq_none, ne_eq, Decidable.not_not, Int.not_lt, Int.not_le] at p119
           refine T_seq ?_
           refine T_region ?_
           refine TL_q (Qt_build [] rfl (by kernel_rfl)) rfl ?_
           refine TL_n (Ef_storeN rfl rfl (?_))
           refine TL_q (Qt_assign (.int .i64 _) rfl) rfl ?_
           refine TL_nil ?_
           refine X_then ?_
           refine T_ret ?_
           refine X_then_ret ?_
           have hck : chkC (ls.map BS.l) id asked.length waits who l = 0 := by
            unfold chkC
            rw [if_neg (by simpa using p21), if_neg (by rw [← hkd]; simpa using p26), if_neg (by rw [← hbd]; simpa using p37), if_neg (by rw [← hrep]; simpa using p42), if_neg (by rw [← hrep]; first | (simp_all; done) | (simp_all; omega)), if_neg (by rw [← hrep, ← hsl]; simpa using p68), if_neg (fun h0 => h0 (by rw [← hff]; exact_mod_cast p75))]
           exact X_ret (⟨1, .zero, waits, who ||| 2 ^ f, (putE (putE es (replyG x18.1.body.l).2 ((getE es (replyG x18.1.body.l).2).getD 0) c) (replyG x18.1.body.l).2 (((getE es (replyG x18.1.body.l).2).getD 0) ||| 2 ^ f) (clockE es (replyG x18.1.body.l).2 c)), (clockE es (replyG x18.1.body.l).2 c), ga, gc, got⟩ : TkY) [_, _] Try.results27 ⟨⟨_, rfl, res_cellN rfl⟩, rfl, trivial⟩ rfl (fun w hw => (Subs.st inferInstance w hw : St w0 (blk p (.cells (ClientV.mk (KeysV.mk ⟨sa, sc, ls⟩ rt) id seed need ⟨aa, (asked).length, ac⟩ ⟨ga, (got).length, gc⟩ waits (((who ||| 2 ^ f) : Nat) : Int) (some m)).cells 141 (0, 0)) :: row (.slice aa (asked).length ac) 85 7 ((asked).flatMap ReqV.list) :: dat fs ⟨(asked).map ReqV.sig, [], []⟩ :: row (.slice ga (got).length gc) 31 5 ((got).flatMap ReplyV.list) :: blk m (mapO encR encW (putE (putE es (replyG x18.1.body.l).2 ((getE es (replyG x18.1.body.l).2).getD 0) c) (replyG x18.1.body.l).2 (((getE es (replyG x18.1.body.l).2).getD 0) ||| 2 ^ f) (clockE es (replyG x18.1.body.l).2 c)) (clockE es (replyG x18.1.body.l).2 c)) :: H) w).addPure ⟨put2_good hg _ _ _, fun h => absurd hck h, fun _ => ⟨by show who ||| 2 ^ f = _; rw [hff], fun key => by rw [← hrep, ← hff]; exact put2_get es c (clockE es (replyG x18.1.body.l).2 c) (replyG x18.1.body.l).2 ((getE es (replyG x18.1.body.l).2).getD 0) (((getE es (replyG x18.1.body.l).2).getD 0) ||| 2 ^ f) key, fun _ => ⟨rfl, rfl, rfl, rfl⟩, fun hle => absurd hle (by rw [← hrep, ← hff]; omega)⟩⟩)
          ·
           have p119 := h119
           try simp only [decide_eq_true_eq, decide_eq_false_iff_not, Bool.not_eq_true', Bool.not_eq_false', Option.isNone_iff_eq_none, ne_eq, Decidable.not_not, Int.not_lt, Int.not_le] at p119
           refine T_skip ?_
           refine X_then ?_
           refine T_seq ?_
           refine T_region ?_
           refine TL_q (Qt_move (.pointer _) rfl) rfl ?_
           refine TL_q (Qt_nilCheck rfl) rfl ?_
           refine TL_q (Qt_fieldAddr 38 rfl rfl) rfl ?_
           refine TL_n (Ef_store1 (.bool _) rfl rfl (?_))
           refine TL_nil ?_
           refine X_then ?_
           refine T_seq ?_
           refine T_drawF (blk b8 (.cells (replyG x18.1.body.l).2.cells 31 (0, 0)) :: H) (by kernel_rfl) (Subs.st inferInstance) ?_
           refine DLF_q (i := 0) (by kernel_rfl) rfl (by kernel_rfl) (by kernel_rfl) (Qt_move (.pointer _) rfl) rfl ?_
           refine DLF_q (i := 1) (by kernel_rfl) rfl (by kernel_rfl) (by kernel_rfl) (Qt_move (.pointer _) rfl) rfl ?_
           refine DLF_q (i := 2) (by kernel_rfl) rfl (by kernel_rfl) (by kernel_rfl) (Qt_nilCheck rfl) rfl ?_
           refine DLF_q (i := 3) (by kernel_rfl) rfl (by kernel_rfl) (by kernel_rfl) (Qt_fieldAddr 37 rfl rfl) rfl ?_
           refine DLF_q (i := 5) (by kernel_rfl) rfl (by kernel_rfl) (by kernel_rfl) (Qt_loadN rfl rfl) rfl ?_
           refine DLF_2 (i := 4) (j := 6) (by kernel_rfl) ?_ ?_
           ·
            refine DLS_e rfl rfl (Ef_of_Qt (Qt_load1 rfl) ⟨(Subs.st inferInstance), ?_⟩)
            refine DLF_1 (i := 6) (by kernel_rfl) ?_
            refine DLS_e rfl rfl (Ef_sliceN (m := ([(replyG x18.1.body.l).2] : List ReplyV).length) [.agg (replyG x18.1.body.l).2.cells] (([(replyG x18.1.body.l).2] : List ReplyV).flatMap ReplyV.list) rfl rfl rfl (by rfl) (by simp [Value.cells, ReplyV.size]) rfl rfl (fun a130 c130 => ⟨(Subs.st inferInstance), ?_⟩))
            refine DLF_1 (i := 7) (by kernel_rfl) ?_
            refine DLS_e rfl rfl (Ef_appendS ReplyV.list (sv := .slice _ _ _) (xv := .slice _ _ _) (xs := got) (ys := [(replyG x18.1.body.l).2]) ReplyV.list_len ReplyV.list_one rfl rfl (by simp; omega) rfl rfl (fun a131 c131 => ⟨(Subs.st inferInstance), ?_⟩))
            refine DLF_q (i := 8) (by kernel_rfl) rfl (by kernel_rfl) (by kernel_rfl) (Qt_nilCheck rfl) rfl ?_
            refine DLF_q (i := 9) (by kernel_rfl) rfl (by kernel_rfl) (by kernel_rfl) (Qt_fieldAddr 37 rfl rfl) rfl ?_
            refine DLF_1 (i := 10) (by kernel_rfl) ?_
            refine DLS_n rfl (Ef_store1 (.slice _ _ _) rfl rfl (⟨(Subs.st inferInstance), ?_⟩))
            refine DLF_nil (by kernel_rfl) ?_
            refine X_then ?_
            refine T_seq ?_
            refine T_region ?_
            refine TL_q (Qt_loadN rfl rfl) rfl ?_
            refine TL_n (Ef_storeN rfl rfl (?_))
            refine TL_q (Qt_assign (.int .i64 _) rfl) rfl ?_
            refine TL_nil ?_
            refine X_then ?_
            refine T_ret ?_
            have hck : chkC (ls.map BS.l) id asked.length waits who l = 0 := by
             unfold chkC
             rw [if_neg (by simpa using p21), if_neg (by rw [← hkd]; simpa using p26), if_neg (by rw [← hbd]; simpa using p37), if_neg (by rw [← hrep]; simpa using p42), if_neg (by rw [← hrep]; first | (simp_all; done) | (simp_all; omega)), if_neg (by rw [← hrep, ← hsl]; simpa using p68), if_neg (fun h0 => h0 (by rw [← hff]; exact_mod_cast p75))]
            exact X_ret (⟨0, (replyG x18.1.body.l).2, false, who ||| 2 ^ f, (putE (putE es (replyG x18.1.body.l).2 ((getE es (replyG x18.1.body.l).2).getD 0) c) (replyG x18.1.body.l).2 (((getE es (replyG x18.1.body.l).2).getD 0) ||| 2 ^ f) (clockE es (replyG x18.1.body.l).2 c)), (clockE es (replyG x18.1.body.l).2 c), a131, c131, got ++ [(replyG x18.1.body.l).2]⟩ : TkY) [_, _] Try.results27 ⟨⟨_, rfl, res_cellN rfl⟩, rfl, trivial⟩ rfl (fun w hw => (Subs.st inferInstance w hw : St w0 (blk p (.cells (ClientV.mk (KeysV.mk ⟨sa, sc, ls⟩ rt) id seed need ⟨aa, (asked).length, ac⟩ ⟨a131, (got ++ [(replyG x18.1.body.l).2]).length, c131⟩ false (((who ||| 2 ^ f) : Nat) : Int) (some m)).cells 141 (0, 0)) :: row (.slice aa (asked).length ac) 85 7 ((asked).flatMap ReqV.list) :: dat fs ⟨(asked).map ReqV.sig, [], []⟩ :: row (.slice a131 (got ++ [(replyG x18.1.body.l).2]).length c131) 31 5 ((got ++ [(replyG x18.1.body.l).2]).flatMap ReplyV.list) :: blk m (mapO encR encW (putE (putE es (replyG x18.1.body.l).2 ((getE es (replyG x18.1.body.l).2).getD 0) c) (replyG x18.1.body.l).2 (((getE es (replyG x18.1.body.l).2).getD 0) ||| 2 ^ f) (clockE es (replyG x18.1.body.l).2 c)) (clockE es (replyG x18.1.body.l).2 c)) :: H) w).addPure ⟨put2_good hg _ _ _, fun h => absurd hck h, fun _ => ⟨by show who ||| 2 ^ f = _; rw [hff], fun key => by rw [← hrep, ← hff]; exact put2_get es c (clockE es (replyG x18.1.body.l).2 c) (replyG x18.1.body.l).2 ((getE es (replyG x18.1.body.l).2).getD 0) (((getE es (replyG x18.1.body.l).2).getD 0) ||| 2 ^ f) key, fun hlt => absurd hlt (by rw [← hrep, ← hff]; omega), fun _ => ⟨rfl, hrep, rfl, by rw [← hrep]⟩⟩⟩)
           ·
            refine DLS_e rfl rfl (Ef_sliceN (m := ([(replyG x18.1.body.l).2] : List ReplyV).length) [.agg (replyG x18.1.body.l).2.cells] (([(replyG x18.1.body.l).2] : List ReplyV).flatMap ReplyV.list) rfl rfl rfl (by rfl) (by simp [Value.cells, ReplyV.size]) rfl rfl (fun a130 c130 => ⟨(Subs.st inferInstance), ?_⟩))
            refine DLF_1 (i := 4) (by kernel_rfl) ?_
            refine DLS_e rfl rfl (Ef_of_Qt (Qt_load1 rfl) ⟨(Subs.st inferInstance), ?_⟩)
            refine DLF_1 (i := 7) (by kernel_rfl) ?_
            refine DLS_e rfl rfl (Ef_appendS ReplyV.list (sv := .slice _ _ _) (xv := .slice _ _ _) (xs := got) (ys := [(replyG x18.1.body.l).2]) ReplyV.list_len ReplyV.list_one rfl rfl (by simp; omega) rfl rfl (fun a131 c131 => ⟨(Subs.st inferInstance), ?_⟩))
            refine DLF_q (i := 8) (by kernel_rfl) rfl (by kernel_rfl) (by kernel_rfl) (Qt_nilCheck rfl) rfl ?_
            refine DLF_q (i := 9) (by kernel_rfl) rfl (by kernel_rfl) (by kernel_rfl) (Qt_fieldAddr 37 rfl rfl) rfl ?_
            refine DLF_1 (i := 10) (by kernel_rfl) ?_
            refine DLS_n rfl (Ef_store1 (.slice _ _ _) rfl rfl (⟨(Subs.st inferInstance), ?_⟩))
            refine DLF_nil (by kernel_rfl) ?_
            refine X_then ?_
            refine T_seq ?_
            refine T_region ?_
            refine TL_q (Qt_loadN rfl rfl) rfl ?_
            refine TL_n (Ef_storeN rfl rfl (?_))
            refine TL_q (Qt_assign (.int .i64 _) rfl) rfl ?_
            refine TL_nil ?_
            refine X_then ?_
            refine T_ret ?_
            have hck : chkC (ls.map BS.l) id asked.length waits who l = 0 := by
             unfold chkC
             rw [if_neg (by simpa using p21), if_neg (by rw [← hkd]; simpa using p26), if_neg (by rw [← hbd]; simpa using p37), if_neg (by rw [← hrep]; simpa using p42), if_neg (by rw [← hrep]; first | (simp_all; done) | (simp_all; omega)), if_neg (by rw [← hrep, ← hsl]; simpa using p68), if_neg (fun h0 => h0 (by rw [← hff]; exact_mod_cast p75))]
            exact X_ret (⟨0, (replyG x18.1.body.l).2, false, who ||| 2 ^ f, (putE (putE es (replyG x18.1.body.l).2 ((getE es (replyG x18.1.body.l).2).getD 0) c) (replyG x18.1.body.l).2 (((getE es (replyG x18.1.body.l).2).getD 0) ||| 2 ^ f) (clockE es (replyG x18.1.body.l).2 c)), (clockE es (replyG x18.1.body.l).2 c), a131, c131, got ++ [(replyG x18.1.body.l).2]⟩ : TkY) [_, _] Try.results27 ⟨⟨_, rfl, res_cellN rfl⟩, rfl, trivial⟩ rfl (fun w hw => (Subs.st inferInstance w hw : St w0 (blk p (.cells (ClientV.mk (KeysV.mk ⟨sa, sc, ls⟩ rt) id seed need ⟨aa, (asked).length, ac⟩ ⟨a131, (got ++ [(replyG x18.1.body.l).2]).length, c131⟩ false (((who ||| 2 ^ f) : Nat) : Int) (some m)).cells 141 (0, 0)) :: row (.slice aa (asked).length ac) 85 7 ((asked).flatMap ReqV.list) :: dat fs ⟨(asked).map ReqV.sig, [], []⟩ :: row (.slice a131 (got ++ [(replyG x18.1.body.l).2]).length c131) 31 5 ((got ++ [(replyG x18.1.body.l).2]).flatMap ReplyV.list) :: blk m (mapO encR encW (putE (putE es (replyG x18.1.body.l).2 ((getE es (replyG x18.1.body.l).2).getD 0) c) (replyG x18.1.body.l).2 (((getE es (replyG x18.1.body.l).2).getD 0) ||| 2 ^ f) (clockE es (replyG x18.1.body.l).2 c)) (clockE es (replyG x18.1.body.l).2 c)) :: H) w).addPure ⟨put2_good hg _ _ _, fun h => absurd hck h, fun _ => ⟨by show who ||| 2 ^ f = _; rw [hff], fun key => by rw [← hrep, ← hff]; exact put2_get es c (clockE es (replyG x18.1.body.l).2 c) (replyG x18.1.body.l).2 ((getE es (replyG x18.1.body.l).2).getD 0) (((getE es (replyG x18.1.body.l).2).getD 0) ||| 2 ^ f) key, fun hlt => absurd hlt (by rw [← hrep, ← hff]; omega), fun _ => ⟨rfl, hrep, rfl, by rw [← hrep]⟩⟩⟩)
end
end Go.Proofs.Ytpdpapcmfnhgpaa
