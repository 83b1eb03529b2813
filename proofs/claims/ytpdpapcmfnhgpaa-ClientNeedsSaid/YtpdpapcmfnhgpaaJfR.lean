/- Walks: answers, clients that are not there; the laws ClientNil, ClientFresh. -/
import Derived.Test.YtpdpapcmfnhgpaaJdR
namespace Go.Proofs.Ytpdpapcmfnhgpaa
section
open Go.RowKit Go.Sx
set_option maxRecDepth 100000
set_option linter.unusedSimpArgs false
set_option linter.unusedVariables false
set_option maxHeartbeats 1000000 in
theorem table24_c {w0 : World} {H : List SA}  :
 CT Try.prog w0 (H) 29 [] (α := (PS × List Nat)) (fun y => .agg (KeysV.mk ⟨y.1.a, y.1.c, y.1.ls⟩ ⟨none, 0, 0⟩).cells) (fun y => pu (y.1.ls.map BS.l = keyT 16) :: dat y.2 (Deep.leads (PS.mk y.1.a y.1.c y.1.ls)) :: H) := by
 refine CT_intro Try.func29 rfl Try.ntmps29 rfl ?_
 refine T_seq ?_
 refine T_region ?_
 refine TL_e rfl (Ef_allocN (fun b0 => ?_))
 refine TL_nil ?_
 refine X_then ?_
 refine T_seq ?_
 refine T_region ?_
 refine TL_e rfl (Ef_allocN (fun b1 => ?_))
 refine TL_nil ?_
 refine X_then ?_
 refine T_seq ?_
 refine T_seq ?_
 refine T_region ?_
 refine TL_q (Qt_move (.int .i64 _) rfl) rfl ?_
 refine TL_nil ?_
 refine X_then ?_
 refine T_block ?_
 refine T_loop [2, 3, 4, 5, 6, 7, 8, 9, 10, 11, 12, 13, 14] [3] (fun us H' => ∃ (k : Nat) (a : Option Addr) (c : Nat) (ls : List BS) (fp : List Nat), us = [.int .i64 (k : Int)] ∧ row (.slice a (ls).length c) 37 1 ((ls).map BS.val) :: eachA fp ls :: blk b1 (.cells (KeysV.mk ⟨a, c, ls⟩ ⟨none, 0, 0⟩).cells 62 (0, 0)) :: blk b0 (.cells KeysV.zero.cells 62 (0, 0)) :: H = H' ∧ k ≤ 16 ∧ (ls.map BS.l = keyT k) ∧ (ls.length = k)) (fun us => match us with | .int _ i :: _ => 16 - i.toNat | _ => 0) ⟨0, none, 0, [], [], rfl, rfl, by omega, rfl, rfl⟩ (fun w hw => by
  have h0 : St w0 (blk b1 (.cells (KeysV.mk ⟨none, 0, []⟩ ⟨none, 0, 0⟩).cells 62 (0, 0)) :: blk b0 (.cells KeysV.zero.cells 62 (0, 0)) :: H) w := Subs.st inferInstance w hw
  exact (h0.eachNil).addNil 37 1) ?_
 rintro τ0 _ _  ⟨k, a, c, ls, fp, rfl, rfl, hk0, hls, hll⟩ _
 refine T_seq ?_
 refine T_region ?_
 refine TL_q (Qt_lss rfl rfl) rfl ?_
 refine TL_nil ?_
 refine X_then ?_
 refine T_seq ?_
 refine T_cond rfl (fun h4 => ?_) (fun h4 => ?_)
 ·
  have p4 := h4
  try simp only [decide_eq_true_eq, decide_eq_false_iff_not, Bool.not_eq_true', Bool.not_eq_false', Option.isNone_iff_eq_none, ne_eq, Decidable.not_not, Int.not_lt, Int.not_le] at p4
  refine T_skip ?_
  refine X_then ?_
  refine T_seq ?_
  refine T_block ?_
  refine T_seq ?_
  refine T_region ?_
  refine TL_q (Qt_move (.int .i64 _) rfl) rfl ?_
  refine TL_q (Qt_assign (.int .i64 _) rfl) rfl ?_
  refine TL_nil ?_
  refine X_then ?_
  refine T_region ?_
  refine TL_q (Qt_fieldAddr 0 rfl rfl) rfl ?_
  refine TL_q (Qt_load1 rfl) rfl ?_
  refine TL_q (Qt_move (.int .i64 _) rfl) rfl ?_
  refine TL_q (Qt_conv rfl rfl Try.underlying5) rfl ?_
  rw [wrap_nat .u8 rfl (by show _ < 2 ^ 8; omega)]
  obtain ⟨u, hu⟩ : ∃ u : UInt8, u = UInt8.ofNat k := ⟨_, rfl⟩
  have hun : (k : Int) = (u.toNat : Int) := by rw [hu]; simp; omega
  refine TL_e rfl (Ef_sliceN (m := ([u] : List UInt8).length) [.int .u8 (k : Int)] (bytesV [u]) rfl rfl rfl (by rw [hun]; rfl) (by simp [Value.cells]) rfl rfl (fun a10 c10 => ?_))
  refine TL_e rfl (Ef_slice1 (v := .slice _ _ _) rfl (fun a11 c11 => ?_))
  refine TL_e rfl (Ef_appendP (sv := .slice _ _ _) (xv := .slice _ _ _) ⟨a10, c10, [u]⟩ rfl rfl (by omega) rfl (fun a12 c12 => ?_))
  refine TL_q (Qt_fieldAddr 0 rfl rfl) rfl ?_
  refine TL_n (Ef_store1 (.slice _ _ _) rfl rfl (?_))
  refine TL_nil ?_
  refine X_block ?_
  refine X_then ?_
  refine T_region ?_
  first
   | refine TL_q (Qt_add rfl rfl (by omega) (by omega)) rfl ?_
   | refine TL_q (Qt_addw rfl rfl) rfl ?_
  refine TL_q (Qt_move (.int .i64 _) rfl) rfl ?_
  refine TL_nil ?_
  apply X_loop
  case ha => exact (by repeat (first | with_reducible exact agree_refl | refine agree_upd rfl ?_ | refine agree_mix rfl ?_ | refine agree_setAll rfl ?_))
  case hI => exact ⟨k + 1, a12, c12, ls ++ [⟨a10, c10, [u]⟩], rowFp (.slice a10 ([u] : List UInt8).length c10) ++ fp, rfl, rfl, by omega, by rw [List.map_append, hls, keyT_succ, ← hu]; rfl, by simp [hll]⟩
  case hm => exact by show 16 - (k + 1 : Int).toNat < 16 - (k : Int).toNat; omega
  case hH => exact fun w hw => eachUnder (Subs.st inferInstance w hw : St w0 (row (.slice a12 (ls ++ [(⟨a10, c10, [u]⟩ : BS)]).length c12) 37 1 ((ls ++ [(⟨a10, c10, [u]⟩ : BS)]).map BS.val) :: row (BS.val ⟨a10, c10, [u]⟩) 5 1 (bytesV (BS.l ⟨a10, c10, [u]⟩)) :: eachA fp ls :: blk b1 (.cells (KeysV.mk ⟨a12, c12, ls ++ [⟨a10, c10, [u]⟩]⟩ ⟨none, 0, 0⟩).cells 62 (0, 0)) :: blk b0 (.cells KeysV.zero.cells 62 (0, 0)) :: H) w)
 ·
  have p4 := h4
  try simp only [decide_eq_true_eq, decide_eq_false_iff_not, Bool.not_eq_true', Bool.not_eq_false', Option.isNone_iff_eq_none, ne_eq, Decidable.not_not, Int.not_lt, Int.not_le] at p4
  have hk16 : k = 16 := by omega
  refine T_exit ?_
  refine X_then_exit ?_
  refine X_loop_exit ?_
  refine X_block_exit ?_
  refine X_then ?_
  refine T_seq ?_
  refine T_region ?_
  refine TL_q (Qt_loadN rfl rfl) rfl ?_
  refine TL_n (Ef_storeN rfl rfl (?_))
  refine TL_nil ?_
  refine X_then ?_
  refine T_ret ?_
  refine X_conv (fun w hw => St.datPS (a := a) (c := c) (ls := ls) (fp := fp) (e := 37) (H := blk b0 (.cells (KeysV.mk ⟨a, c, ls⟩ ⟨none, 0, 0⟩).cells 62 (0, 0)) :: H) (Subs.st inferInstance w hw)) (fun fp2 => ?_)
  exact X_ret (⟨a, c, ls⟩, fp2) [_] Try.results29 ⟨⟨_, rfl, res_cellN rfl⟩, trivial⟩ rfl (fun w hw => (Subs.st inferInstance w hw : St w0 (dat fp2 (Deep.leads (PS.mk a c ls)) :: H) w).addPure (by rw [hls, hk16]))
def ansD (fr : Int) (r : ReplyV) : MsgD := ⟨7, fr, 0, 0, r.slot, zeroV 32, replyB r, []⟩
attribute [local irreducible] openK sealK replyB chkC repC frmC ones16 replyG
set_option maxHeartbeats 1000000 in
theorem answer_c {w0 : World} {H : List SA} {fr : Int} {r : ReplyV} (hn : -9223372036854775808 ≤ r.res.n ∧ r.res.n ≤ 9223372036854775807) :
 CT Try.prog w0 (H) 35 [.int .i64 fr, .agg r.cells] (α := AC) (fun y => .slice y.a (sealK (keyT 16) (ansD fr r)).1.length y.c) (fun y => row (.slice y.a (sealK (keyT 16) (ansD fr r)).1.length y.c) 5 1 (bytesV (sealK (keyT 16) (ansD fr r)).1) :: H) := by
 refine CT_intro Try.func35 rfl Try.ntmps35 rfl ?_
 refine T_seq ?_
 refine T_region ?_
 refine TL_e rfl (Ef_boxN rfl (fun b3 => ?_))
 refine TL_q (Qt_assign (.slice _ _ _) rfl) rfl ?_
 refine TL_nil ?_
 refine X_then ?_
 refine T_seq ?_
 refine T_drawF (blk b3 (.cells r.cells 31 (0, 0)) :: H) (by kernel_rfl) (Subs.st inferInstance) ?_
 refine DLF_q (i := 1) (by kernel_rfl) rfl (by kernel_rfl) (by kernel_rfl) (Qt_move (.int .i64 _) rfl) rfl ?_
 refine DLF_q (i := 2) (by kernel_rfl) rfl (by kernel_rfl) (by kernel_rfl) (Qt_fieldAddr 2 rfl rfl) rfl ?_
 refine DLF_q (i := 3) (by kernel_rfl) rfl (by kernel_rfl) (by kernel_rfl) (Qt_load1 rfl) rfl ?_
 refine DLF_q (i := 4) (by kernel_rfl) rfl (by kernel_rfl) (by kernel_rfl) (Qt_loadN rfl rfl) rfl ?_
 refine DLF_1 (i := 0) (by kernel_rfl) ?_
 refine DLS_e rfl rfl (Ef_call (table24_c) rfl (fun x8 => ⟨(Subs.st inferInstance), ?_⟩))
 refine DLF_pure (fun h8 => ?_)
 refine DLF_1 (i := 5) (by kernel_rfl) ?_
 refine DLS_e rfl rfl (Ef_call (rPutReply_c (r := r) hn) rfl (fun x13 => ⟨(Subs.st inferInstance), ?_⟩))
 refine DLF_q (i := 6) (by kernel_rfl) rfl (by kernel_rfl) (by kernel_rfl) (Qt_build [(0, (.int .i64 _)), (1, (.int .i64 _)), (4, (.int .i64 _)), (6, .slice _ _ _)] rfl (by kernel_rfl)) rfl ?_
 refine DLF_1 (i := 7) (by kernel_rfl) ?_
 refine DLS_e rfl rfl (Ef_call (sealF_c (ls := x8.1.ls) (sa := x8.1.a) (sc := x8.1.c) (rt := ⟨none, 0, 0⟩) (m := MsgV.mk 7 fr 0 0 r.slot (zeroV 32) ⟨x13.a, x13.c, replyB r⟩ ⟨none, 0, []⟩) (keyT_small h8).2 (ansD fr r) (rb := inferInstance) (rc := RdC.vals0) (re := RdE.nil) rfl ⟨by have := replyB_len hn; show (replyB r).length ≤ 3000; omega, by simp [ansD], fun x hx => by cases hx⟩) rfl (fun x15 => ⟨(Subs.st inferInstance), ?_⟩))
 rw [h8]
 refine DLF_q (i := 8) (by kernel_rfl) rfl (by kernel_rfl) (by kernel_rfl) (Qt_move (.tuple _) rfl) rfl ?_
 refine DLF_q (i := 9) (by kernel_rfl) rfl (by kernel_rfl) (by kernel_rfl) (Qt_extract rfl) rfl ?_
 refine DLF_q (i := 10) (by kernel_rfl) rfl (by kernel_rfl) (by kernel_rfl) (Qt_extract rfl) rfl ?_
 refine DLF_q (i := 11) (by kernel_rfl) rfl (by kernel_rfl) (by kernel_rfl) (Qt_assign (.slice _ _ _) rfl) rfl ?_
 refine DLF_q (i := 12) (by kernel_rfl) rfl (by kernel_rfl) (by kernel_rfl) (Qt_assign (.int .i64 _) rfl) rfl ?_
 refine DLF_nil (by kernel_rfl) ?_
 refine X_then ?_
 refine T_seq ?_
 refine T_region ?_
 refine TL_q (Qt_move (.slice _ _ _) rfl) rfl ?_
 refine TL_q (Qt_assign (.slice _ _ _) rfl) rfl ?_
 refine TL_nil ?_
 refine X_then ?_
 refine T_ret ?_
 exact X_ret ⟨x15.a, x15.c⟩ [_] Try.results35 ⟨rfl, trivial⟩ rfl (Subs.st inferInstance)
end
section
open Go.RowKit Go.Sx
set_option maxRecDepth 100000
set_option linter.unusedSimpArgs false
set_option linter.unusedVariables false
theorem sealK_small {K : List (List UInt8)} {m : MsgD} : (sealK K m).1.length ≤ 4294960000 := by
 have := putM_le m
 unfold sealK
 repeat' split
 all_goals first | exact Nat.zero_le _ | (rw [List.length_append, Vector.length_toList]; omega)
theorem ans_small {fr : Int} {r : ReplyV} (hn : -9223372036854775808 ≤ r.res.n ∧ r.res.n ≤ 9223372036854775807) : SmallM (ansD fr r) := ⟨by have := replyB_len hn; show (replyB r).length ≤ 3000; omega, by simp [ansD], fun x hx => by cases hx⟩
theorem ans_open {fr : Int} {r : ReplyV} (hn : -9223372036854775808 ≤ r.res.n ∧ r.res.n ≤ 9223372036854775807) (hf : 0 ≤ fr ∧ fr ≤ 15) (hs : 0 ≤ r.slot ∧ r.slot ≤ 60) : openK (keyT 16) (sealK (keyT 16) (ansD fr r)).1 = (0, ansD fr r) := by
 have hsm := ans_small (fr := fr) hn
 have h1 := headM_le (ansD fr r) hsm
 have h2 : (msgB (ansD fr r)).length ≤ 65504 := by
  rw [msgB_len]
  show (headM (ansD fr r)).length + (texts []).length ≤ 65504
  simp only [texts, List.map_nil, List.flatten_nil, List.length_nil]; omega
 have hp : (putM (ansD fr r)).2 = 0 := by
  unfold putM
  rw [if_neg (by intro h; rcases h with h | h; (simp [ansD] at h); omega), if_pos ((formedM_iff _).2 (by refine ⟨?_, ?_, ?_, ?_, ?_, ?_, ?_, ?_, ?_, ?_⟩ <;> simp only [ansD] <;> omega))]
 exact openK_seal (by rw [sealK_ok hp (by rw [keyT_len]; simp only [ansD]; omega)]) hsm
def rW (sl : Int) : ReplyV := ⟨1, 1, sl, ⟨false, 0⟩⟩
theorem rW_range (sl : Int) : -9223372036854775808 ≤ (rW sl).res.n ∧ (rW sl).res.n ≤ 9223372036854775807 := by simp [rW]
theorem replyB_W {sl : Nat} (h : sl < 256) : replyB (rW sl) = [1, 1, UInt8.ofNat sl, 0, 0] := by
 have e : packed (foldN 0) = [0] := packed_small (by decide)
 have e1 : (IntKind.u64.wrap ((sl : Nat) : Int)).toNat = sl := by rw [wrap_nat .u64 rfl (by show _ < 2 ^ 64; omega)]; rfl
 unfold replyB okI rW
 simp only [e, e1, Bool.false_eq_true, if_false, fixed_one]
 rw [show (IntKind.u64.wrap 1).toNat = 1 from by decide, show (IntKind.u64.wrap 0).toNat = 0 from by decide, Nat.mod_eq_of_lt h]
 rfl
theorem replyG_W {sl : Nat} (h : sl < 256) : replyG (replyB (rW sl)) = (0, rW sl) := by
 have e : rdPacked [0] = (0, 0, 1) := by decide
 rw [replyB_W h]
 unfold replyG
 rw [if_neg (by simp), show List.drop 4 [1, 1, UInt8.ofNat sl, 0, (0 : UInt8)] = [0] from rfl, e, if_neg (by simp), if_neg (by simp)]
 simp [rW, unfoldN]; omega
theorem ans_chk {fr sl who : Nat} (hf : fr < 16) (hs : sl ≤ 60) (hw : who / 2 ^ fr % 2 = 0) : chkC (keyT 16) 1 1 true who (sealK (keyT 16) (ansD fr (rW sl))).1 = 0 ∧ repC (keyT 16) (sealK (keyT 16) (ansD fr (rW sl))).1 = rW sl ∧ frmC (keyT 16) (sealK (keyT 16) (ansD fr (rW sl))).1 = fr := by
 have ho := ans_open (fr := (fr : Int)) (rW_range (sl : Int)) (by omega) (show 0 ≤ (sl : Int) ∧ (sl : Int) ≤ 60 by omega)
 have hb : (ansD (fr : Int) (rW sl)).body = replyB (rW sl) := rfl
 have hr : repC (keyT 16) (sealK (keyT 16) (ansD fr (rW sl))).1 = rW sl := by unfold repC; rw [ho]; show (replyG (ansD (fr : Int) (rW sl)).body).2 = _; rw [hb, replyG_W (by omega)]
 have hm : frmC (keyT 16) (sealK (keyT 16) (ansD fr (rW sl))).1 = fr := by unfold frmC; rw [ho]; show ((fr : Int)).toNat = fr; simp
 refine ⟨?_, hr, hm⟩
 unfold chkC
 rw [hr, hm, ho]
 show (if (0 : Int) ≠ 0 then _ else if (7 : Int) ≠ 7 then _ else if (replyG (ansD (fr : Int) (rW sl)).body).1 ≠ 0 then _ else _) = _
 rw [hb, replyG_W (by omega), if_neg (by simp), if_neg (by simp), if_neg (by simp), if_neg (by simp [rW]), if_neg (by simp [rW]), if_neg (by show ¬ ((sl : Int) ≠ (sl : Int)); simp), if_neg (by omega)]
theorem ones_1 : ones16 1 = 1 := by decide +kernel
theorem ones_3 : ones16 3 = 2 := by decide +kernel
theorem take_W1 {K : List (List UInt8)} {need : Int} {n : Nat} {sl : Nat} {y : TkY} (hK : K = keyT 16) (hn : n = 1) (hs : sl ≤ 60) (h : TakeC K 1 need n true 0 [] [] (sealK (keyT 16) (ansD ((0 : Nat) : Int) (rW sl))).1 y) :
 GoodM y.es y.c ∧ y.who = 1 ∧ (∀ key, (getE y.es key).getD 0 = if key = rW sl then 1 else 0) ∧ (1 < need → y.e = 1 ∧ y.waits = true ∧ y.got = []) ∧ (need ≤ 1 → y.e = 0 ∧ y.r = rW sl ∧ y.waits = false ∧ y.got = [rW sl]) := by
 subst hK hn
 obtain ⟨hc, hr, hf⟩ := ans_chk (fr := 0) (sl := sl) (who := 0) (by decide) hs (by decide)
 obtain ⟨hg, -, h2⟩ := h
 obtain ⟨hw, hk, ha, hb⟩ := h2 hc
 rw [hr, hf] at ha hb hk
 rw [hf] at hw
 simp only [getE, List.find?_nil, Option.map_none, Option.getD_none, Nat.pow_zero, Nat.zero_or, ones_1] at ha hb hk hw
 exact ⟨hg, hw, hk, fun hlt => by have := ha (by omega); exact ⟨this.1, this.2.2.1, this.2.2.2⟩, fun hle => by have := hb (by omega); exact ⟨this.1, this.2.1, this.2.2.1, this.2.2.2⟩⟩
theorem take_W2 {K : List (List UInt8)} {n sl who : Nat} {waits : Bool} {es : List (Ent ReplyV Nat)} {got : List ReplyV} {y : TkY} (hK : K = keyT 16) (hn : n = 1) (hs : sl ≤ 60) (hw : waits = true) (hwho : who = 1) (hes : ∀ key, (getE es key).getD 0 = if key = rW sl then 1 else 0) (h : TakeC K 1 2 n waits who es got (sealK (keyT 16) (ansD ((1 : Nat) : Int) (rW sl))).1 y) :
 y.e = 0 ∧ y.r = rW sl := by
 subst hK hn hw hwho
 obtain ⟨hc, hr, hf⟩ := ans_chk (fr := 1) (sl := sl) (who := 1) (by decide) hs (by decide)
 obtain ⟨hg, -, h2⟩ := h
 obtain ⟨-, -, -, hb⟩ := h2 hc
 rw [hr, hf, hes, if_pos rfl] at hb
 have := hb (by rw [show (1 ||| 2 ^ 1 : Nat) = 3 from rfl, ones_3]; decide)
 exact ⟨this.1, this.2.1⟩
attribute [local irreducible] openK sealK replyB chkC repC frmC ones16 replyG
set_option maxHeartbeats 1000000 in
theorem wakes24_c {w0 : World} {H : List SA}  :
 CT Try.prog w0 (H) 24 [] (α := Unit) (fun _ => .bool true) (fun _ => H) := by
 refine CT_intro Try.func24 rfl Try.ntmps24 rfl ?_
 refine T_seq ?_
 refine T_region ?_
 refine TL_q (Qt_assign (.bool _) rfl) rfl ?_
 refine TL_nil ?_
 refine X_then ?_
 refine T_seq ?_
 refine T_region ?_
 refine TL_e rfl (Ef_call (table24_c) rfl (fun x9 => ?_))
 refine TL_pure (fun h9 => ?_)
 refine TL_q (Qt_build_arr (hlist ((zeroV 32).set 0 1)).toArray Try.underlying36 rfl rfl rfl) rfl ?_
 refine TL_e rfl (Ef_call (cnew_c (sa := x9.1.a) (sc := x9.1.c) (ls := x9.1.ls) (rt := ⟨none, 0, 0⟩) (keyT_small h9).2 (by have := (keyT_small h9).1; omega) (seed := ((zeroV 32).set 0 1)) (id := 1) (need := 2) (by decide) (by decide)) rfl (fun x11 => ?_))
 refine TL_pure (fun h11 => ?_)
 refine TL_q (Qt_assign (.pointer _) rfl) rfl ?_
 refine TL_nil ?_
 refine X_then ?_
 refine T_seq ?_
 refine T_region ?_
 refine TL_q (Qt_move (.pointer _) rfl) rfl ?_
 refine TL_q (Qt_build [(0, (.int .i64 _))] rfl (by kernel_rfl)) rfl ?_
 refine TL_e rfl (Ef_call (ask1_c (asked := []) (by decide) (fun r hr => by cases hr)) rfl (fun x15 => ?_))
 refine TL_pure (fun h15 => ?_)
 refine TL_q (Qt_move (.tuple _) rfl) rfl ?_
 refine TL_q (Qt_extract rfl) rfl ?_
 refine TL_q (Qt_extract rfl) rfl ?_
 refine TL_q (Qt_assign (.slice _ _ _) rfl) rfl ?_
 refine TL_q (Qt_assign (.int .i64 _) rfl) rfl ?_
 refine TL_nil ?_
 refine X_then ?_
 refine T_seq ?_
 refine T_region ?_
 refine TL_q (Qt_build [(0, (.int .i64 _)), (1, (.int .i64 _)), (2, (.int .i64 _))] rfl (by kernel_rfl)) rfl ?_
 rw [show ReplyV.mk 1 1 2 ⟨false, 0⟩ = rW ((2 : Nat) : Int) from rfl]
 refine TL_e rfl (Ef_allocN (fun b4 => ?_))
 refine TL_n (Ef_storeN rfl rfl (?_))
 refine TL_nil ?_
 refine X_then ?_
 refine T_seq ?_
 refine T_region ?_
 refine TL_q (Qt_move (.pointer _) rfl) rfl ?_
 refine TL_q (Qt_loadN rfl rfl) rfl ?_
 refine TL_e rfl (Ef_call (answer_c (fr := ((0 : Nat) : Int)) (r := rW ((2 : Nat) : Int)) (rW_range _)) rfl (fun x22 => ?_))
 refine TL_conv (fun w hw => (Subs.st inferInstance w hw : St w0 (blk x11.1.1 (.cells (ClientV.mk (KeysV.mk ⟨x11.2.1.a, x11.2.1.c, x11.2.1.ls⟩ ⟨none, 0, 0⟩) 1 ((zeroV 32).set 0 1) 2 ⟨x15.2.1.a, (x15.2.2.1).length, x15.2.1.c⟩ ⟨none, (([] : List ReplyV)).length, 0⟩ true ((0 : Nat) : Int) (some x11.1.2)).cells 141 (0, 0)) :: row (.slice x15.2.1.a (x15.2.2.1).length x15.2.1.c) 85 7 ((x15.2.2.1).flatMap ReqV.list) :: dat x15.2.2.2 ⟨(x15.2.2.1).map ReqV.sig, [], []⟩ :: row (.slice none (([] : List ReplyV)).length 0) 31 5 ((([] : List ReplyV)).flatMap ReplyV.list) :: blk x11.1.2 (mapO encR encW ([] : List (Ent ReplyV Nat)) 0) :: dat x11.2.2 (Deep.leads (PS.mk x11.2.1.a x11.2.1.c x11.2.1.ls)) :: row (.slice x22.a (sealK (keyT 16) (ansD ((0 : Nat) : Int) (rW ((2 : Nat) : Int)))).1.length x22.c) 5 1 (bytesV (sealK (keyT 16) (ansD ((0 : Nat) : Int) (rW ((2 : Nat) : Int)))).1) :: blk b4 (.cells (rW ((2 : Nat) : Int)).cells 31 (0, 0)) :: H) w)) ?_
 refine TL_e rfl (Ef_call (take_c (asked := x15.2.2.1) (es := []) (c := 0) (who := 0) (got := []) (fun x hx => (keyT_small (h11.trans h9)).2 x hx) GoodM.nil (by decide) (fun key => by simp [getE]) (by simp) (l := (sealK (keyT 16) (ansD ((0 : Nat) : Int) (rW ((2 : Nat) : Int)))).1) sealK_small) rfl (fun x23 => ?_))
 refine TL_pure (fun h23 => ?_)
 have ht1 := take_W1 (h11.trans h9) h15.1 (by decide) h23
 refine TL_q (Qt_move (.tuple _) rfl) rfl ?_
 refine TL_q (Qt_extract rfl) rfl ?_
 refine TL_q (Qt_extract rfl) rfl ?_
 refine TL_e rfl (Ef_allocN (fun b5 => ?_))
 refine TL_n (Ef_storeN rfl rfl (?_))
 refine TL_q (Qt_assign (.int .i64 _) rfl) rfl ?_
 refine TL_nil ?_
 refine X_then ?_
 refine T_seq ?_
 refine T_region ?_
 refine TL_q (Qt_move (.pointer _) rfl) rfl ?_
 refine TL_q (Qt_loadN rfl rfl) rfl ?_
 refine TL_e rfl (Ef_call (answer_c (fr := ((1 : Nat) : Int)) (r := rW ((2 : Nat) : Int)) (rW_range _)) rfl (fun x29 => ?_))
 refine TL_conv (fun w hw => (Subs.st inferInstance w hw : St w0 (blk x11.1.1 (.cells (ClientV.mk (KeysV.mk ⟨x11.2.1.a, x11.2.1.c, x11.2.1.ls⟩ ⟨none, 0, 0⟩) 1 ((zeroV 32).set 0 1) 2 ⟨x15.2.1.a, (x15.2.2.1).length, x15.2.1.c⟩ ⟨x23.ga, (x23.got).length, x23.gc⟩ x23.waits ((x23.who : Nat) : Int) (some x11.1.2)).cells 141 (0, 0)) :: row (.slice x15.2.1.a (x15.2.2.1).length x15.2.1.c) 85 7 ((x15.2.2.1).flatMap ReqV.list) :: dat x15.2.2.2 ⟨(x15.2.2.1).map ReqV.sig, [], []⟩ :: row (.slice x23.ga (x23.got).length x23.gc) 31 5 ((x23.got).flatMap ReplyV.list) :: blk x11.1.2 (mapO encR encW x23.es x23.c) :: dat x11.2.2 (Deep.leads (PS.mk x11.2.1.a x11.2.1.c x11.2.1.ls)) :: row (.slice x29.a (sealK (keyT 16) (ansD ((1 : Nat) : Int) (rW ((2 : Nat) : Int)))).1.length x29.c) 5 1 (bytesV (sealK (keyT 16) (ansD ((1 : Nat) : Int) (rW ((2 : Nat) : Int)))).1) :: blk b4 (.cells (rW ((2 : Nat) : Int)).cells 31 (0, 0)) :: blk b5 (.cells x23.r.cells 31 (0, 0)) :: H) w)) ?_
 refine TL_e rfl (Ef_call (take_c (asked := x15.2.2.1) (es := x23.es) (c := x23.c) (who := x23.who) (got := x23.got) (fun x hx => (keyT_small (h11.trans h9)).2 x hx) ht1.1 (by rw [ht1.2.1]; decide) (fun key => by rw [ht1.2.2.1]; split <;> decide) (by rw [(ht1.2.2.2.1 (by decide)).2.2]; simp) (l := (sealK (keyT 16) (ansD ((1 : Nat) : Int) (rW ((2 : Nat) : Int)))).1) sealK_small) rfl (fun x30 => ?_))
 refine TL_pure (fun h30 => ?_)
 have ht2 := take_W2 (h11.trans h9) h15.1 (by decide) (ht1.2.2.2.1 (by decide)).2.1 ht1.2.1 ht1.2.2.1 h30
 refine TL_q (Qt_move (.tuple _) rfl) rfl ?_
 refine TL_q (Qt_extract rfl) rfl ?_
 refine TL_q (Qt_extract rfl) rfl ?_
 refine TL_e rfl (Ef_allocN (fun b7 => ?_))
 refine TL_n (Ef_storeN rfl rfl (?_))
 refine TL_q (Qt_assign (.int .i64 _) rfl) rfl ?_
 refine TL_nil ?_
 refine X_then ?_
 refine T_seq ?_
 refine T_region ?_
 refine TL_q (Qt_move (.int .i64 _) rfl) rfl ?_
 refine TL_q (Qt_eql rfl rfl) rfl ?_
 refine TL_q (Qt_move (.bool _) rfl) rfl ?_
 refine TL_split 35 rfl (fun h35 => ?_) (fun h35 => ?_)
 ·
  have p35 := h35
  try simp only [decide_eq_true_eq, decide_eq_false_iff_not, Bool.not_eq_true', Bool.not_eq_false', Option.isNone_iff_eq_none, ne_eq, Decidable.not_not, Int.not_lt, Int.not_le] at p35
  refine TL_take rfl rfl h35 ?_
  refine TL_q (Qt_move (.int .i64 _) rfl) rfl ?_
  refine TL_take rfl rfl h35 ?_
  refine TL_q (Qt_eql rfl rfl) rfl ?_
  refine TL_q (Qt_pick_t (.bool _) rfl h35 rfl) rfl ?_
  refine TL_q (Qt_move (.bool _) rfl) rfl ?_
  refine TL_split 39 rfl (fun h39 => ?_) (fun h39 => ?_)
  ·
   have p39 := h39
   try simp only [decide_eq_true_eq, decide_eq_false_iff_not, Bool.not_eq_true', Bool.not_eq_false', Option.isNone_iff_eq_none, ne_eq, Decidable.not_not, Int.not_lt, Int.not_le] at p39
   refine TL_take rfl rfl h39 ?_
   refine TL_q (Qt_move (.int .i64 _) rfl) rfl ?_
   refine TL_take rfl rfl h39 ?_
   refine TL_q (Qt_eql rfl rfl) rfl ?_
   refine TL_q (Qt_pick_t (.bool _) rfl h39 rfl) rfl ?_
   refine TL_q (Qt_move (.bool _) rfl) rfl ?_
   refine TL_split 43 rfl (fun h43 => ?_) (fun h43 => ?_)
   ·
    have p43 := h43
    try simp only [decide_eq_true_eq, decide_eq_false_iff_not, Bool.not_eq_true', Bool.not_eq_false', Option.isNone_iff_eq_none, ne_eq, Decidable.not_not, Int.not_lt, Int.not_le] at p43
    refine TL_take rfl rfl h43 ?_
    refine TL_q (Qt_loadN rfl rfl) rfl ?_
    refine TL_take rfl rfl h43 ?_
    refine TL_q (Qt_loadN rfl rfl) rfl ?_
    refine TL_take rfl rfl h43 ?_
    refine TL_q (Qt_agg_eql rfl rfl (by kernel_rfl)) rfl ?_
    refine TL_q (Qt_pick_t (.bool _) rfl h43 rfl) rfl ?_
    refine TL_q (Qt_assign (.bool _) rfl) rfl ?_
    refine TL_nil ?_
    refine X_then ?_
    refine T_ret ?_
    exact X_ret () [.bool true] Try.results24 ⟨congrArg Value.bool (by rw [ht2.2]; decide), trivial⟩ rfl (Subs.st inferInstance)
   ·
    have p43 := h43
    try simp only [decide_eq_true_eq, decide_eq_false_iff_not, Bool.not_eq_true', Bool.not_eq_false', Option.isNone_iff_eq_none, ne_eq, Decidable.not_not, Int.not_lt, Int.not_le] at p43
    exact absurd h43 (by rw [ht2.1]; decide)
  ·
   have p39 := h39
   try simp only [decide_eq_true_eq, decide_eq_false_iff_not, Bool.not_eq_true', Bool.not_eq_false', Option.isNone_iff_eq_none, ne_eq, Decidable.not_not, Int.not_lt, Int.not_le] at p39
   exact absurd h39 (by rw [(ht1.2.2.2.1 (by decide)).1]; decide)
 ·
  have p35 := h35
  try simp only [decide_eq_true_eq, decide_eq_false_iff_not, Bool.not_eq_true', Bool.not_eq_false', Option.isNone_iff_eq_none, ne_eq, Decidable.not_not, Int.not_lt, Int.not_le] at p35
  exact absurd h35 (by decide)
end
section
open Go.RowKit Go.Sx
set_option maxRecDepth 100000
set_option linter.unusedSimpArgs false
set_option linter.unusedVariables false
theorem TakeC.inv {K : List (List UInt8)} {id need : Int} {n : Nat} {waits : Bool} {who : Nat} {es : List (Ent ReplyV Nat)} {got : List ReplyV} {l : List UInt8} {y : TkY} (h : TakeC K id need n waits who es got l y) (hwho : who < 65536) (hes : ∀ key, (getE es key).getD 0 < 65536) :
 y.who < 65536 ∧ GoodM y.es y.c ∧ (∀ key, (getE y.es key).getD 0 < 65536) ∧ y.got.length ≤ got.length + 1 ∧ (y.e = 0 → y.r.seq = (n : Int)) := by
 obtain ⟨hg, h1, h2⟩ := h
 by_cases hc : chkC K id n waits who l = 0
 · obtain ⟨hw, hk, ha, hb⟩ := h2 hc
   have hx : (openK K l).1 = 0 := by
    unfold chkC at hc
    split at hc
    · rename_i h0; exact absurd hc h0
    · rename_i h0; simpa using h0
   have hfm := (formedM_iff _).1 (openK_formed hx)
   have hf : frmC K l < 16 := by unfold frmC; omega
   have h2f : 2 ^ frmC K l < 2 ^ 16 := Nat.pow_lt_pow_right (by decide) hf
   have hseq : (repC K l).seq = (n : Int) := by
    unfold chkC at hc
    repeat' (split at hc)
    all_goals first | (exact absurd hc (by decide)) | (rename_i h0; exact absurd hc h0) | skip
    all_goals first | (rename_i h0 _ _; have := not_or.1 h0; simpa using this.2) | (rename_i h0 _; exact absurd hc h0)
   refine ⟨?_, hg, ?_, ?_, ?_⟩
   · rw [hw]; exact Nat.or_lt_two_pow (n := 16) hwho h2f
   · intro key
     rw [hk]
     split
     · exact Nat.or_lt_two_pow (n := 16) (hes _) h2f
     · exact hes _
   · by_cases hlt : ((ones16 ((getE es (repC K l)).getD 0 ||| 2 ^ frmC K l) : Nat) : Int) < need
     · rw [(ha hlt).2.2.2]; omega
     · rw [(hb (by omega)).2.2.2]; simp
   · by_cases hlt : ((ones16 ((getE es (repC K l)).getD 0 ||| 2 ^ frmC K l) : Nat) : Int) < need
     · rw [(ha hlt).1]; intro h; cases h
     · rw [(hb (by omega)).2.1]; intro _; exact hseq
 · obtain ⟨he, -, -, hw, hes', hgot⟩ := h1 hc
   exact ⟨by rw [hw]; exact hwho, hg, by rw [hes']; exact hes, by rw [hgot]; omega, fun h => absurd (he ▸ h) hc⟩
attribute [local irreducible] openK sealK replyB chkC repC frmC ones16 replyG
end
end Go.Proofs.Ytpdpapcmfnhgpaa
