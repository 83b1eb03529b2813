/- Walks: a message is read, of package wire. -/
import Derived.Test.YtnijomppbgdmnaaWe
namespace Go.Proofs.Ytnijomppbgdmnaa
open Go.RowKit Go.Sx
set_option maxRecDepth 100000
set_option linter.unusedSimpArgs false
set_option linter.unusedVariables false

def MsgD.zero : MsgD := ⟨0, 0, 0, 0, 0, zeroV 32, [], []⟩
def be (l : List UInt8) (o n : Nat) : Int := ((beN ((l.drop o).take n) : Nat) : Int)
def hashAt (l : List UInt8) : Vector UInt8 32 := Vector.ofFn fun i => l.getD (8 + i) 0
/-- The text of the body, the parts behind it. -/
def bodyR (l : List UInt8) : Int × List UInt8 × Nat := rdText (l.drop (8 + 32)) 65536
def restR (l : List UInt8) : Int × List (List UInt8) × Nat := partsR (l.drop (8 + 32 + (bodyR l).2.2))
def readM (l : List UInt8) : MsgD := ⟨be l 0 1, be l (0 + 1) 1, be l (0 + 1 + 1) 2, be l (0 + 1 + 1 + 2) 2, be l (0 + 1 + 1 + 2 + 2) 2, hashAt l, (bodyR l).2.1, (restR l).2.1⟩
def msgR (l : List UInt8) : Int × MsgD :=
  if l.length < 40 then (1, .zero) else if (bodyR l).1 ≠ 0 then ((bodyR l).1, .zero) else if (restR l).1 ≠ 0 then ((restR l).1, .zero)
  else if 8 + 32 + (bodyR l).2.2 + (restR l).2.2 < l.length then (2, .zero) else if formedM (readM l) = true then (0, readM l) else (15, .zero)
/-- wire.Get: the error, the message. -/
def getM (l : List UInt8) : Int × MsgD := if 65504 < l.length then (4, .zero) else if (msgR l).1 ≠ 0 then ((msgR l).1, .zero) else msgR l
theorem msgR_short {l : List UInt8} (h : l.length < 40) : msgR l = (1, .zero) := if_pos h
theorem msgR_body {l : List UInt8} (h : ¬ l.length < 40) (hb : (bodyR l).1 ≠ 0) : msgR l = ((bodyR l).1, .zero) := by rw [msgR, if_neg h, if_pos hb]
theorem msgR_rest {l : List UInt8} (h : ¬ l.length < 40) (hb : (bodyR l).1 = 0) (hr : (restR l).1 ≠ 0) : msgR l = ((restR l).1, .zero) := by rw [msgR, if_neg h, if_neg (by omega), if_pos hr]
theorem msgR_more {l : List UInt8} (h : ¬ l.length < 40) (hb : (bodyR l).1 = 0) (hr : (restR l).1 = 0) (hm : 8 + 32 + (bodyR l).2.2 + (restR l).2.2 < l.length) : msgR l = (2, .zero) := by rw [msgR, if_neg h, if_neg (by omega), if_neg (by omega), if_pos hm]
theorem msgR_end {l : List UInt8} (h : ¬ l.length < 40) (hb : (bodyR l).1 = 0) (hr : (restR l).1 = 0) (hm : ¬ 8 + 32 + (bodyR l).2.2 + (restR l).2.2 < l.length) : msgR l = if formedM (readM l) = true then (0, readM l) else (15, .zero) := by rw [msgR, if_neg h, if_neg (by omega), if_neg (by omega), if_neg hm]
theorem hashAt_byte {l : List UInt8} {i : Nat} (hi : i < 32) (h : 8 + i < l.length) : beN ((l.drop (8 + i)).take 1) = (hashAt l)[i].toNat := by
  have e : (l.drop (8 + i)).take 1 = [l[8 + i]] := by rw [List.drop_eq_getElem_cons h]; rfl
  rw [e]
  simp [beN, hashAt, List.getD, List.getElem?_eq_getElem h]
def hvec (h : Vector UInt8 32) (i : Nat) : Vector UInt8 32 := Vector.ofFn fun j => if j.val < i then h[j] else 0
theorem hvec_zero (h : Vector UInt8 32) : hvec h 0 = zeroV 32 := by
  apply Vector.ext; intro i hi; simp [hvec, zeroV]
theorem hvec_all (h : Vector UInt8 32) : hvec h 32 = h := by
  apply Vector.ext; intro i hi; simp [hvec, hi]
theorem hvec_set (h : Vector UInt8 32) (i : Nat) (hi : i < 32) : (hvec h i).set i h[i] = hvec h (i + 1) := by
  apply Vector.ext; intro j hj
  by_cases e : i = j
  · subst e; simp [hvec]
  · rw [Vector.getElem_set_ne _ _ e]
    simp only [hvec, Vector.getElem_ofFn, Fin.getElem_fin]
    by_cases h1 : j < i <;> simp [h1] <;> omega
theorem hlist_set (h : Vector UInt8 32) (i : Nat) (hi : i < 32) (c : UInt8) : hlist (h.set i c) = (hlist h).take i ++ (byteV c :: (hlist h).drop (i + 1)) := by
  have e : hlist (h.set i c) = (hlist h).set i (byteV c) := by simp [hlist, bytesV, List.map_set, Vector.toList_set]
  rw [e, List.set_eq_take_append_cons_drop, if_pos (by simpa using hi)]
theorem MsgV.putHash (v : MsgV) (i : Nat) (hi : i < 32) (c : UInt8) : Put v.cells (5 + i) (.int .u8 (c.toNat : Int)) ({ v with hash := v.hash.set i c } : MsgV).cells := by
  have hl : (hlist v.hash).length = 32 := by simp
  have e1 : hlist v.hash = (hlist v.hash).take i ++ ((hlist v.hash).drop i).take 1 ++ (hlist v.hash).drop (i + 1) := by
    rw [List.append_assoc, ← List.drop_drop, List.take_append_drop, List.take_append_drop]
  have := Put.mid (([.int .i64 v.kind] : List Value) ++ (([.int .i64 v.frm] : List Value) ++ (([.int .i64 v.view] : List Value) ++ (([.int .i64 v.reg] : List Value) ++ (([.int .i64 v.slot] : List Value) ++ (hlist v.hash).take i))))) (((hlist v.hash).drop i).take 1) ((hlist v.hash).drop (i + 1) ++ (([.slice v.body.a v.body.l.length v.body.c] : List Value) ++ ([.slice v.parts.a v.parts.ls.length v.parts.c] : List Value))) (cs := v.cells) (o := 5 + i) (n := 1) (v := .int .u8 (c.toNat : Int))
    (by conv => lhs; rw [MsgV.cells, MsgV.list, e1]
        simp only [List.append_assoc, List.cons_append, List.nil_append]) (by simp; omega) (by simp; omega) rfl
  have e2 : ({ v with hash := v.hash.set i c } : MsgV).cells = ((([.int .i64 v.kind] : List Value) ++ (([.int .i64 v.frm] : List Value) ++ (([.int .i64 v.view] : List Value) ++ (([.int .i64 v.reg] : List Value) ++ (([.int .i64 v.slot] : List Value) ++ (hlist v.hash).take i))))) ++ ((Value.int .u8 (c.toNat : Int)).cells.toList ++ ((hlist v.hash).drop (i + 1) ++ (([.slice v.body.a v.body.l.length v.body.c] : List Value) ++ ([.slice v.parts.a v.parts.ls.length v.parts.c] : List Value))))).toArray := by
    rw [MsgV.cells, MsgV.list]
    simp only [hlist_set v.hash i hi c, Value.cells, byteV, List.append_assoc, List.cons_append, List.nil_append]
  rw [e2]; exact this
instance MsgV.deep : Deep MsgV := ⟨fun m => ⟨[m.body], [m.parts], []⟩⟩
instance (priority := low) RdB.ofMsg {w0 : World} {H : List SA} {x : MsgV} [h : Rd w0 H x] : RdB w0 H (.slice x.body.a x.body.l.length x.body.c) x.body.l := ⟨h.ok.b x.body (by simp [Deep.leads])⟩
instance (priority := low) RdC.ofMsg {w0 : World} {H : List SA} {x : MsgV} [h : Rd w0 H x] : RdC w0 H (.slice x.parts.a x.parts.ls.length x.parts.c) 1 (x.parts.ls.map BS.val) := ⟨h.ok.p x.parts (by simp [Deep.leads])⟩
instance (priority := low) RdE.ofMsg {w0 : World} {H : List SA} {x : MsgV} [h : Rd w0 H x] : RdE w0 H x.parts.ls := ⟨h.ok.e x.parts (by simp [Deep.leads])⟩
theorem St.datEach {w0 w : World} {H : List SA} {fp : List Nat} {ls : List BS} (h : St w0 (eachA fp ls :: H) w) : St w0 (dat fp ⟨ls, [], []⟩ :: H) w :=
  h.turn rfl fun hp => ⟨fun y hy => hp y hy, fun _ h => (by cases h), fun _ h => (by cases h), fun _ h => (by cases h)⟩
theorem St.datMsg {w0 w : World} {H : List SA} {m : MsgV} {fp : List Nat} {e e2 : TypeId} (h : St w0 (row (.slice m.parts.a m.parts.ls.length m.parts.c) e 1 (m.parts.ls.map BS.val) :: eachA fp m.parts.ls :: row (.slice m.body.a m.body.l.length m.body.c) e2 1 (bytesV m.body.l) :: H) w) :
    ∃ fp, St w0 (dat fp (Deep.leads m) :: H) w := by
  have h1 : St w0 (eachA fp m.parts.ls :: row (.slice m.parts.a m.parts.ls.length m.parts.c) e 1 (m.parts.ls.map BS.val) :: row (.slice m.body.a m.body.l.length m.body.c) e2 1 (bytesV m.body.l) :: H) w := Subs.st inferInstance w h
  have h2 := St.datEach h1
  have h3 : St w0 (row (.slice m.parts.a m.parts.ls.length m.parts.c) e 1 (m.parts.ls.map BS.val) :: dat fp ⟨m.parts.ls, [], []⟩ :: row (.slice m.body.a m.body.l.length m.body.c) e2 1 (bytesV m.body.l) :: H) w := Subs.st inferInstance w h2
  have h4 := h3.datP
  have h5 : St w0 (row (.slice m.body.a m.body.l.length m.body.c) e2 1 (bytesV m.body.l) :: dat (rowFp (.slice m.parts.a m.parts.ls.length m.parts.c) ++ fp) ⟨[], [m.parts], []⟩ :: H) w := Subs.st inferInstance w h4
  exact ⟨_, h5.datB.datAdd⟩

theorem fillP (a b c d e : Option Addr) : Instr.fill (fun i => some (i * 1, 1)) #[.pointer none, .pointer none, .pointer none, .pointer none, .pointer none] [(0, .pointer a), (1, .pointer b), (2, .pointer c), (3, .pointer d), (4, .pointer e)] = some #[.pointer a, .pointer b, .pointer c, .pointer d, .pointer e] := by
  rfl
attribute [local irreducible] beN hashAt rdText rdCount partsR
set_option maxHeartbeats 1000000 in
theorem message_c {w0 : World} {H : List SA} {p : Nat} {b : BS} [rb : RdB w0 H (.slice b.a b.l.length b.c) b.l] (hl : b.l.length ≤ 4294967296) :
    CTP Try.prog w0 (blk p (.cells (ReaderV.mk b ((0 : Nat) : Int)).cells 126 (0, 0)) :: H) 40 [.agg #[.pointer (some ⟨p, 0, none⟩)]] (α := MsgV × List Nat) (β := Unit) (fun y => .agg y.1.cells) (fun y => pu (msgR b.l = (0, y.1.abs)) :: dat y.2 (Deep.leads y.1) :: H) (fun _ => errP (msgR b.l).1) (fun _ => pu ((msgR b.l).1 ≠ 0) :: H) := by
  refine CTP_intro Try.func40 rfl Try.ntmps40 rfl ?_
  refine T_seq ?_
  refine T_region ?_
  refine TL_e rfl (Ef_boxN rfl (fun b1 => ?_))
  refine TL_e rfl (Ef_allocN (fun b2 => ?_))
  refine TL_nil ?_
  refine X_then ?_
  refine T_seq ?_
  refine T_region ?_
  refine TL_e rfl (Ef_allocN (fun b3 => ?_))
  refine TL_nil ?_
  refine X_then ?_
  refine T_seq ?_
  refine T_region ?_
  refine TL_e rfl (Ef_call (widths_c) rfl (fun x8 => ?_))
  refine TL_e rfl (Ef_allocN (fun b4 => ?_))
  refine TL_n (Ef_storeN rfl rfl (?_))
  refine TL_nil ?_
  refine X_then ?_
  refine T_seq ?_
  refine T_seq ?_
  refine T_region ?_
  refine TL_q (Qt_fieldAddr 0 rfl rfl) rfl ?_
  refine TL_q (Qt_fieldAddr 1 rfl rfl) rfl ?_
  refine TL_q (Qt_fieldAddr 2 rfl rfl) rfl ?_
  refine TL_q (Qt_fieldAddr 3 rfl rfl) rfl ?_
  refine TL_q (Qt_fieldAddr 4 rfl rfl) rfl ?_
  refine TL_q (Qt_build_arr #[.pointer (some ⟨b3, 0, none⟩), .pointer (some ⟨b3, 1, none⟩), .pointer (some ⟨b3, 2, none⟩), .pointer (some ⟨b3, 3, none⟩), .pointer (some ⟨b3, 4, none⟩)] Try.underlying128 rfl rfl (fillP _ _ _ _ _)) rfl ?_
  refine TL_q (Qt_move (.int .i64 _) rfl) rfl ?_
  refine TL_nil ?_
  refine X_then ?_
  refine T_block ?_
  refine T_unroll (TU_round ?_)
  refine T_seq ?_
  refine T_region ?_
  refine TL_q (Qt_lss rfl rfl) rfl ?_
  refine TL_nil ?_
  refine X_then ?_
  refine T_seq ?_
  refine T_cond_true rfl (by first | rfl | decide) ?_
  refine T_skip ?_
  refine X_then ?_
  refine T_seq ?_
  refine T_block ?_
  refine T_seq ?_
  refine T_region ?_
  refine TL_q (Qt_move (.int .i64 _) rfl) rfl ?_
  refine TL_q (Qt_index (.pointer _) rfl rfl Try.underlying128 (by omega) (by omega) (rfl)) rfl ?_
  refine TL_q (Qt_assign (.int .i64 _) rfl) rfl ?_
  refine TL_q (Qt_assign (.pointer _) rfl) rfl ?_
  refine TL_nil ?_
  refine X_then ?_
  refine T_draw (blk b4 (.cells w5 118 (0, 0)) :: blk b1 (.cells #[.pointer (some ⟨p, 0, none⟩)] 90 (0, 0)) :: H) [(0, true), (1, true), (2, true), (3, true), (4, true), (5, false), (6, true), (7, false)] (by kernel_rfl) (by kernel_rfl) rfl (by kernel_rfl) (Subs.st inferInstance) (fun hns0 => ?_)
  refine DL_q hns0 rfl (Qt_move (.pointer _) rfl) rfl ?_
  refine DL_q hns0 rfl (Qt_loadN rfl rfl) rfl ?_
  refine DL_q hns0 rfl (Qt_move (.int .i64 _) rfl) rfl ?_
  refine DL_q hns0 rfl (Qt_indexAddr_arr (sz := 1) rfl rfl Try.underlying118 rfl rfl (by omega) (by omega)) rfl ?_
  refine DL_q hns0 rfl (Qt_load1 (v := .int .i64 1) (hc := ⟨rfl⟩) rfl) rfl ?_
  refine DL_frontB p ?_
  refine DL_eP rfl rfl (EfP_call (number_c (b := b) (k := 0) (n := 1) (by omega) hl rfl (by decide)) rfl (fun x24 => ⟨(Subs.st inferInstance), ?_⟩) (fun y => X_block_panic (X_then_panic (X_again_panic (X_block_panic (X_then_panic (X_pure fun hy => X_pan () (by rw [msgR_short (by omega)]) (fun w hw => (Subs.st inferInstance w hw : St w0 H w).addPure (by rw [msgR_short (by omega)]; decide)))))))))
  refine DL_q hns0 rfl (Qt_nilCheck rfl) rfl ?_
  refine DL_n rfl (Ef_store1 (.int .i64 _) rfl rfl (⟨(Subs.st inferInstance), ?_⟩))
  refine DL_nil ?_
  refine X_block ?_
  refine X_then ?_
  refine T_region ?_
  refine TL_know (fun w hw => hw.holds (pu (0 + 1 ≤ b.l.length)) (by simp)) (fun hle0 => ?_)
  first
    | refine TL_q (Qt_add rfl rfl (by omega) (by omega)) rfl ?_
    | refine TL_q (Qt_addw rfl rfl) rfl ?_
  refine TL_q (Qt_move (.int .i64 _) rfl) rfl ?_
  refine TL_nil ?_
  refine X_again (TU_round ?_)
  refine T_seq ?_
  refine T_region ?_
  refine TL_q (Qt_lss rfl rfl) rfl ?_
  refine TL_nil ?_
  refine X_then ?_
  refine T_seq ?_
  refine T_cond_true rfl (by first | rfl | decide) ?_
  refine T_skip ?_
  refine X_then ?_
  refine T_seq ?_
  refine T_block ?_
  refine T_seq ?_
  refine T_region ?_
  refine TL_q (Qt_move (.int .i64 _) rfl) rfl ?_
  refine TL_q (Qt_index (.pointer _) rfl rfl Try.underlying128 (by omega) (by omega) (rfl)) rfl ?_
  refine TL_q (Qt_assign (.int .i64 _) rfl) rfl ?_
  refine TL_q (Qt_assign (.pointer _) rfl) rfl ?_
  refine TL_nil ?_
  refine X_then ?_
  refine T_draw (blk b4 (.cells w5 118 (0, 0)) :: blk b1 (.cells #[.pointer (some ⟨p, 0, none⟩)] 90 (0, 0)) :: H) [(0, true), (1, true), (2, true), (3, true), (4, true), (5, false), (6, true), (7, false)] (by kernel_rfl) (by kernel_rfl) rfl (by kernel_rfl) (Subs.st inferInstance) (fun hns1 => ?_)
  refine DL_q hns1 rfl (Qt_move (.pointer _) rfl) rfl ?_
  refine DL_q hns1 rfl (Qt_loadN rfl rfl) rfl ?_
  refine DL_q hns1 rfl (Qt_move (.int .i64 _) rfl) rfl ?_
  refine DL_q hns1 rfl (Qt_indexAddr_arr (sz := 1) rfl rfl Try.underlying118 rfl rfl (by omega) (by omega)) rfl ?_
  refine DL_q hns1 rfl (Qt_load1 (v := .int .i64 1) (hc := ⟨rfl⟩) rfl) rfl ?_
  refine DL_frontB p ?_
  refine DL_eP rfl rfl (EfP_call (number_c (b := b) (k := 0 + 1) (n := 1) (by omega) hl rfl (by decide)) rfl (fun x24 => ⟨(Subs.st inferInstance), ?_⟩) (fun y => X_block_panic (X_then_panic (X_again_panic (X_block_panic (X_then_panic (X_pure fun hy => X_pan () (by rw [msgR_short (by omega)]) (fun w hw => (Subs.st inferInstance w hw : St w0 H w).addPure (by rw [msgR_short (by omega)]; decide)))))))))
  refine DL_q hns1 rfl (Qt_nilCheck rfl) rfl ?_
  refine DL_n rfl (Ef_store1 (.int .i64 _) rfl rfl (⟨(Subs.st inferInstance), ?_⟩))
  refine DL_nil ?_
  refine X_block ?_
  refine X_then ?_
  refine T_region ?_
  refine TL_know (fun w hw => hw.holds (pu (0 + 1 + 1 ≤ b.l.length)) (by simp)) (fun hle1 => ?_)
  first
    | refine TL_q (Qt_add rfl rfl (by omega) (by omega)) rfl ?_
    | refine TL_q (Qt_addw rfl rfl) rfl ?_
  refine TL_q (Qt_move (.int .i64 _) rfl) rfl ?_
  refine TL_nil ?_
  refine X_again (TU_round ?_)
  refine T_seq ?_
  refine T_region ?_
  refine TL_q (Qt_lss rfl rfl) rfl ?_
  refine TL_nil ?_
  refine X_then ?_
  refine T_seq ?_
  refine T_cond_true rfl (by first | rfl | decide) ?_
  refine T_skip ?_
  refine X_then ?_
  refine T_seq ?_
  refine T_block ?_
  refine T_seq ?_
  refine T_region ?_
  refine TL_q (Qt_move (.int .i64 _) rfl) rfl ?_
  refine TL_q (Qt_index (.pointer _) rfl rfl Try.underlying128 (by omega) (by omega) (rfl)) rfl ?_
  refine TL_q (Qt_assign (.int .i64 _) rfl) rfl ?_
  refine TL_q (Qt_assign (.pointer _) rfl) rfl ?_
  refine TL_nil ?_
  refine X_then ?_
  refine T_draw (blk b4 (.cells w5 118 (0, 0)) :: blk b1 (.cells #[.pointer (some ⟨p, 0, none⟩)] 90 (0, 0)) :: H) [(0, true), (1, true), (2, true), (3, true), (4, true), (5, false), (6, true), (7, false)] (by kernel_rfl) (by kernel_rfl) rfl (by kernel_rfl) (Subs.st inferInstance) (fun hns2 => ?_)
  refine DL_q hns2 rfl (Qt_move (.pointer _) rfl) rfl ?_
  refine DL_q hns2 rfl (Qt_loadN rfl rfl) rfl ?_
  refine DL_q hns2 rfl (Qt_move (.int .i64 _) rfl) rfl ?_
  refine DL_q hns2 rfl (Qt_indexAddr_arr (sz := 1) rfl rfl Try.underlying118 rfl rfl (by omega) (by omega)) rfl ?_
  refine DL_q hns2 rfl (Qt_load1 (v := .int .i64 2) (hc := ⟨rfl⟩) rfl) rfl ?_
  refine DL_frontB p ?_
  refine DL_eP rfl rfl (EfP_call (number_c (b := b) (k := 0 + 1 + 1) (n := 2) (by omega) hl rfl (by decide)) rfl (fun x24 => ⟨(Subs.st inferInstance), ?_⟩) (fun y => X_block_panic (X_then_panic (X_again_panic (X_block_panic (X_then_panic (X_pure fun hy => X_pan () (by rw [msgR_short (by omega)]) (fun w hw => (Subs.st inferInstance w hw : St w0 H w).addPure (by rw [msgR_short (by omega)]; decide)))))))))
  refine DL_q hns2 rfl (Qt_nilCheck rfl) rfl ?_
  refine DL_n rfl (Ef_store1 (.int .i64 _) rfl rfl (⟨(Subs.st inferInstance), ?_⟩))
  refine DL_nil ?_
  refine X_block ?_
  refine X_then ?_
  refine T_region ?_
  refine TL_know (fun w hw => hw.holds (pu (0 + 1 + 1 + 2 ≤ b.l.length)) (by simp)) (fun hle2 => ?_)
  first
    | refine TL_q (Qt_add rfl rfl (by omega) (by omega)) rfl ?_
    | refine TL_q (Qt_addw rfl rfl) rfl ?_
  refine TL_q (Qt_move (.int .i64 _) rfl) rfl ?_
  refine TL_nil ?_
  refine X_again (TU_round ?_)
  refine T_seq ?_
  refine T_region ?_
  refine TL_q (Qt_lss rfl rfl) rfl ?_
  refine TL_nil ?_
  refine X_then ?_
  refine T_seq ?_
  refine T_cond_true rfl (by first | rfl | decide) ?_
  refine T_skip ?_
  refine X_then ?_
  refine T_seq ?_
  refine T_block ?_
  refine T_seq ?_
  refine T_region ?_
  refine TL_q (Qt_move (.int .i64 _) rfl) rfl ?_
  refine TL_q (Qt_index (.pointer _) rfl rfl Try.underlying128 (by omega) (by omega) (rfl)) rfl ?_
  refine TL_q (Qt_assign (.int .i64 _) rfl) rfl ?_
  refine TL_q (Qt_assign (.pointer _) rfl) rfl ?_
  refine TL_nil ?_
  refine X_then ?_
  refine T_draw (blk b4 (.cells w5 118 (0, 0)) :: blk b1 (.cells #[.pointer (some ⟨p, 0, none⟩)] 90 (0, 0)) :: H) [(0, true), (1, true), (2, true), (3, true), (4, true), (5, false), (6, true), (7, false)] (by kernel_rfl) (by kernel_rfl) rfl (by kernel_rfl) (Subs.st inferInstance) (fun hns3 => ?_)
  refine DL_q hns3 rfl (Qt_move (.pointer _) rfl) rfl ?_
  refine DL_q hns3 rfl (Qt_loadN rfl rfl) rfl ?_
  refine DL_q hns3 rfl (Qt_move (.int .i64 _) rfl) rfl ?_
  refine DL_q hns3 rfl (Qt_indexAddr_arr (sz := 1) rfl rfl Try.underlying118 rfl rfl (by omega) (by omega)) rfl ?_
  refine DL_q hns3 rfl (Qt_load1 (v := .int .i64 2) (hc := ⟨rfl⟩) rfl) rfl ?_
  refine DL_frontB p ?_
  refine DL_eP rfl rfl (EfP_call (number_c (b := b) (k := 0 + 1 + 1 + 2) (n := 2) (by omega) hl rfl (by decide)) rfl (fun x24 => ⟨(Subs.st inferInstance), ?_⟩) (fun y => X_block_panic (X_then_panic (X_again_panic (X_block_panic (X_then_panic (X_pure fun hy => X_pan () (by rw [msgR_short (by omega)]) (fun w hw => (Subs.st inferInstance w hw : St w0 H w).addPure (by rw [msgR_short (by omega)]; decide)))))))))
  refine DL_q hns3 rfl (Qt_nilCheck rfl) rfl ?_
  refine DL_n rfl (Ef_store1 (.int .i64 _) rfl rfl (⟨(Subs.st inferInstance), ?_⟩))
  refine DL_nil ?_
  refine X_block ?_
  refine X_then ?_
  refine T_region ?_
  refine TL_know (fun w hw => hw.holds (pu (0 + 1 + 1 + 2 + 2 ≤ b.l.length)) (by simp)) (fun hle3 => ?_)
  first
    | refine TL_q (Qt_add rfl rfl (by omega) (by omega)) rfl ?_
    | refine TL_q (Qt_addw rfl rfl) rfl ?_
  refine TL_q (Qt_move (.int .i64 _) rfl) rfl ?_
  refine TL_nil ?_
  refine X_again (TU_round ?_)
  refine T_seq ?_
  refine T_region ?_
  refine TL_q (Qt_lss rfl rfl) rfl ?_
  refine TL_nil ?_
  refine X_then ?_
  refine T_seq ?_
  refine T_cond_true rfl (by first | rfl | decide) ?_
  refine T_skip ?_
  refine X_then ?_
  refine T_seq ?_
  refine T_block ?_
  refine T_seq ?_
  refine T_region ?_
  refine TL_q (Qt_move (.int .i64 _) rfl) rfl ?_
  refine TL_q (Qt_index (.pointer _) rfl rfl Try.underlying128 (by omega) (by omega) (rfl)) rfl ?_
  refine TL_q (Qt_assign (.int .i64 _) rfl) rfl ?_
  refine TL_q (Qt_assign (.pointer _) rfl) rfl ?_
  refine TL_nil ?_
  refine X_then ?_
  refine T_draw (blk b4 (.cells w5 118 (0, 0)) :: blk b1 (.cells #[.pointer (some ⟨p, 0, none⟩)] 90 (0, 0)) :: H) [(0, true), (1, true), (2, true), (3, true), (4, true), (5, false), (6, true), (7, false)] (by kernel_rfl) (by kernel_rfl) rfl (by kernel_rfl) (Subs.st inferInstance) (fun hns4 => ?_)
  refine DL_q hns4 rfl (Qt_move (.pointer _) rfl) rfl ?_
  refine DL_q hns4 rfl (Qt_loadN rfl rfl) rfl ?_
  refine DL_q hns4 rfl (Qt_move (.int .i64 _) rfl) rfl ?_
  refine DL_q hns4 rfl (Qt_indexAddr_arr (sz := 1) rfl rfl Try.underlying118 rfl rfl (by omega) (by omega)) rfl ?_
  refine DL_q hns4 rfl (Qt_load1 (v := .int .i64 2) (hc := ⟨rfl⟩) rfl) rfl ?_
  refine DL_frontB p ?_
  refine DL_eP rfl rfl (EfP_call (number_c (b := b) (k := 0 + 1 + 1 + 2 + 2) (n := 2) (by omega) hl rfl (by decide)) rfl (fun x24 => ⟨(Subs.st inferInstance), ?_⟩) (fun y => X_block_panic (X_then_panic (X_again_panic (X_block_panic (X_then_panic (X_pure fun hy => X_pan () (by rw [msgR_short (by omega)]) (fun w hw => (Subs.st inferInstance w hw : St w0 H w).addPure (by rw [msgR_short (by omega)]; decide)))))))))
  refine DL_q hns4 rfl (Qt_nilCheck rfl) rfl ?_
  refine DL_n rfl (Ef_store1 (.int .i64 _) rfl rfl (⟨(Subs.st inferInstance), ?_⟩))
  refine DL_nil ?_
  refine X_block ?_
  refine X_then ?_
  refine T_region ?_
  refine TL_know (fun w hw => hw.holds (pu (0 + 1 + 1 + 2 + 2 + 2 ≤ b.l.length)) (by simp)) (fun hle4 => ?_)
  first
    | refine TL_q (Qt_add rfl rfl (by omega) (by omega)) rfl ?_
    | refine TL_q (Qt_addw rfl rfl) rfl ?_
  refine TL_q (Qt_move (.int .i64 _) rfl) rfl ?_
  refine TL_nil ?_
  refine X_again (TU_round ?_)
  refine T_seq ?_
  refine T_region ?_
  refine TL_q (Qt_lss rfl rfl) rfl ?_
  refine TL_nil ?_
  refine X_then ?_
  refine T_seq ?_
  refine T_cond_false rfl (by first | rfl | decide) ?_
  refine T_exit ?_
  refine X_then_exit ?_
  refine X_again_exit ?_
  refine X_block_exit ?_
  refine X_then ?_
  refine T_seq ?_
  refine T_seq ?_
  refine T_region ?_
  refine TL_q (Qt_move (.int .i64 _) rfl) rfl ?_
  refine TL_nil ?_
  refine X_then ?_
  refine T_block ?_
  refine T_loop [7, 27, 28, 29, 30, 31, 32, 33, 34, 35, 36] [27] (fun us H' => ∃ (i : Nat), us = [.int .i64 (i : Int)] ∧ blk p (.cells (ReaderV.mk b ((8 + i : Nat) : Int)).cells 126 (0, 0)) :: blk b3 (.cells (MsgV.mk ((beN ((b.l.drop (0)).take 1) : Nat) : Int) ((beN ((b.l.drop (0 + 1)).take 1) : Nat) : Int) ((beN ((b.l.drop (0 + 1 + 1)).take 2) : Nat) : Int) ((beN ((b.l.drop (0 + 1 + 1 + 2)).take 2) : Nat) : Int) ((beN ((b.l.drop (0 + 1 + 1 + 2 + 2)).take 2) : Nat) : Int) (hvec (hashAt b.l) i) ⟨none, 0, []⟩ ⟨none, 0, []⟩).cells 43 (0, 0)) :: blk b4 (.cells w5 118 (0, 0)) :: blk b2 (.cells MsgV.zero.cells 43 (0, 0)) :: blk b1 (.cells #[.pointer (some ⟨p, 0, none⟩)] 90 (0, 0)) :: H = H' ∧ i ≤ 32 ∧ (8 + i ≤ b.l.length)) (fun us => match us with | .int _ i :: _ => 32 - i.toNat | _ => 0) ⟨0, rfl, rfl, by omega, by omega⟩ (fun w hw => by
          rw [hvec_zero]
          exact (Subs.st inferInstance w hw : St w0 (blk p (.cells (ReaderV.mk b ((0 + 1 + 1 + 2 + 2 + 2 : Nat) : Int)).cells 126 (0, 0)) :: blk b3 (.cells (MsgV.mk ((beN ((b.l.drop (0)).take 1) : Nat) : Int) ((beN ((b.l.drop (0 + 1)).take 1) : Nat) : Int) ((beN ((b.l.drop (0 + 1 + 1)).take 2) : Nat) : Int) ((beN ((b.l.drop (0 + 1 + 1 + 2)).take 2) : Nat) : Int) ((beN ((b.l.drop (0 + 1 + 1 + 2 + 2)).take 2) : Nat) : Int) (zeroV 32) ⟨none, 0, []⟩ ⟨none, 0, []⟩).cells 43 (0, 0)) :: blk b4 (.cells w5 118 (0, 0)) :: blk b2 (.cells MsgV.zero.cells 43 (0, 0)) :: blk b1 (.cells #[.pointer (some ⟨p, 0, none⟩)] 90 (0, 0)) :: H) w)) ?_
  rintro τ1 _ _  ⟨i, rfl, rfl, hi0, hie⟩ _
  refine T_seq ?_
  refine T_region ?_
  refine TL_q (Qt_lss rfl rfl) rfl ?_
  refine TL_nil ?_
  refine X_then ?_
  refine T_seq ?_
  refine T_cond rfl (fun h28 => ?_) (fun h28 => ?_)
  ·
    have p28 := h28
    try simp only [decide_eq_true_eq, decide_eq_false_iff_not, Bool.not_eq_true', Bool.not_eq_false', Option.isNone_iff_eq_none, ne_eq, Decidable.not_not, Int.not_lt, Int.not_le] at p28
    refine T_skip ?_
    refine X_then ?_
    refine T_seq ?_
    refine T_block ?_
    refine T_seq ?_
    refine T_region ?_
    refine TL_q (Qt_move (.int .i64 _) rfl) rfl ?_
    refine TL_q (Qt_assign (.int .i64 _) rfl) rfl ?_
    refine TL_nil ?_
    refine X_then ?_
    refine T_region ?_
    refine TL_q (Qt_move (.int .i64 _) rfl) rfl ?_
    refine TL_q (Qt_loadN rfl rfl) rfl ?_
    refine TL_frontB p ?_
    have hi : i < 32 := by omega
    refine TL_eP rfl (EfP_call (number_c (b := b) (k := 8 + i) (n := 1) (by omega) hl rfl (by decide)) rfl (fun x32 => ?_) (fun y => X_block_panic (X_then_panic (X_loop_panic (X_block_panic (X_then_panic (X_pure fun hy => X_pan () (by rw [msgR_short (by omega)]) (fun w hw => (Subs.st inferInstance w hw : St w0 H w).addPure (by rw [msgR_short (by omega)]; decide)))))))))
    refine TL_pure (fun hle => ?_)
    have hby := hashAt_byte hi (by omega : 8 + i < b.l.length)
    rw [hby]
    refine TL_q (Qt_conv rfl rfl Try.underlying5) rfl ?_
    rw [wrap_nat .u8 rfl (by have := (hashAt b.l)[i].toNat_lt; show _ < 2 ^ 8; omega)]
    have hput : Put ((MsgV.mk ((beN ((b.l.drop (0)).take 1) : Nat) : Int) ((beN ((b.l.drop (0 + 1)).take 1) : Nat) : Int) ((beN ((b.l.drop (0 + 1 + 1)).take 2) : Nat) : Int) ((beN ((b.l.drop (0 + 1 + 1 + 2)).take 2) : Nat) : Int) ((beN ((b.l.drop (0 + 1 + 1 + 2 + 2)).take 2) : Nat) : Int) (hvec (hashAt b.l) i) ⟨none, 0, []⟩ ⟨none, 0, []⟩)).cells (5 + (i : Int).toNat * 1) (.int .u8 ((hashAt b.l)[i].toNat : Int)) ((MsgV.mk ((beN ((b.l.drop (0)).take 1) : Nat) : Int) ((beN ((b.l.drop (0 + 1)).take 1) : Nat) : Int) ((beN ((b.l.drop (0 + 1 + 1)).take 2) : Nat) : Int) ((beN ((b.l.drop (0 + 1 + 1 + 2)).take 2) : Nat) : Int) ((beN ((b.l.drop (0 + 1 + 1 + 2 + 2)).take 2) : Nat) : Int) (hvec (hashAt b.l) (i + 1)) ⟨none, 0, []⟩ ⟨none, 0, []⟩)).cells := by
      have h1 := MsgV.putHash (MsgV.mk ((beN ((b.l.drop (0)).take 1) : Nat) : Int) ((beN ((b.l.drop (0 + 1)).take 1) : Nat) : Int) ((beN ((b.l.drop (0 + 1 + 1)).take 2) : Nat) : Int) ((beN ((b.l.drop (0 + 1 + 1 + 2)).take 2) : Nat) : Int) ((beN ((b.l.drop (0 + 1 + 1 + 2 + 2)).take 2) : Nat) : Int) (hvec (hashAt b.l) i) ⟨none, 0, []⟩ ⟨none, 0, []⟩) i hi (hashAt b.l)[i]
      rw [show ({ (MsgV.mk ((beN ((b.l.drop (0)).take 1) : Nat) : Int) ((beN ((b.l.drop (0 + 1)).take 1) : Nat) : Int) ((beN ((b.l.drop (0 + 1 + 1)).take 2) : Nat) : Int) ((beN ((b.l.drop (0 + 1 + 1 + 2)).take 2) : Nat) : Int) ((beN ((b.l.drop (0 + 1 + 1 + 2 + 2)).take 2) : Nat) : Int) (hvec (hashAt b.l) i) ⟨none, 0, []⟩ ⟨none, 0, []⟩) with hash := (hvec (hashAt b.l) i).set i (hashAt b.l)[i] } : MsgV) = (MsgV.mk ((beN ((b.l.drop (0)).take 1) : Nat) : Int) ((beN ((b.l.drop (0 + 1)).take 1) : Nat) : Int) ((beN ((b.l.drop (0 + 1 + 1)).take 2) : Nat) : Int) ((beN ((b.l.drop (0 + 1 + 1 + 2)).take 2) : Nat) : Int) ((beN ((b.l.drop (0 + 1 + 1 + 2 + 2)).take 2) : Nat) : Int) (hvec (hashAt b.l) (i + 1)) ⟨none, 0, []⟩ ⟨none, 0, []⟩) from by rw [← hvec_set (hashAt b.l) i hi]] at h1
      rw [show 5 + (i : Int).toNat * 1 = 5 + i from by simp]; exact h1
    refine TL_q (Qt_fieldAddr 5 rfl rfl) rfl ?_
    refine TL_q (Qt_indexAddr_arr (sz := 1) rfl rfl Try.underlying35 rfl rfl (by omega) (by omega)) rfl ?_
    refine TL_n (Ef_store1 (.int .u8 _) rfl rfl (?_))
    refine TL_nil ?_
    refine X_block ?_
    refine X_then ?_
    refine T_region ?_
    first
      | refine TL_q (Qt_add rfl rfl (by omega) (by omega)) rfl ?_
      | refine TL_q (Qt_addw rfl rfl) rfl ?_
    refine TL_q (Qt_move (.int .i64 _) rfl) rfl ?_
    refine TL_nil ?_
    apply X_loop
    case ha => exact (by repeat (first | with_reducible exact agree_refl | refine agree_upd rfl ?_ | refine agree_mix rfl ?_ | refine agree_setAll rfl ?_))
    case hI => exact ⟨i + 1, rfl, rfl, by omega, by omega⟩
    case hm => exact by show 32 - (i + 1 : Int).toNat < 32 - (i : Int).toNat; omega
    case hH => exact (Subs.st inferInstance)
  ·
    have p28 := h28
    try simp only [decide_eq_true_eq, decide_eq_false_iff_not, Bool.not_eq_true', Bool.not_eq_false', Option.isNone_iff_eq_none, ne_eq, Decidable.not_not, Int.not_lt, Int.not_le] at p28
    have hi : i = 32 := by omega
    subst hi
    rw [hvec_all]
    have hle32 : 8 + 32 ≤ b.l.length := hie
    refine T_exit ?_
    refine X_then_exit ?_
    refine X_loop_exit ?_
    refine X_block_exit ?_
    refine X_then ?_
    refine T_seq ?_
    refine T_region ?_
    refine TL_q (Qt_loadN rfl rfl) rfl ?_
    refine TL_frontB p ?_
    refine TL_eP rfl (EfP_call (rtext_c (b := b) (k := 8 + 32) hle32 hl) rfl (fun x38 => ?_) (fun y => X_then_panic (X_pure fun hy => X_pan () (by rw [msgR_body (by omega) hy]; rfl) (fun w hw => (Subs.st inferInstance w hw : St w0 H w).addPure (by rw [msgR_body (by omega) hy]; exact hy)))))
    refine TL_pure (fun hbz => ?_)
    have hbz : (bodyR b.l).1 = 0 := hbz
    have hkb : 8 + 32 + (bodyR b.l).2.2 ≤ b.l.length := by have h : (bodyR b.l).2.2 ≤ (b.l.drop (8 + 32)).length := (rdText_bound (b.l.drop (8 + 32)) 65536).1; rw [List.length_drop] at h; omega
    refine TL_q (Qt_fieldAddr 37 rfl rfl) rfl ?_
    refine TL_n (Ef_store1 (.slice _ _ _) rfl rfl (?_))
    refine TL_nil ?_
    refine X_then ?_
    refine T_seq ?_
    refine T_region ?_
    refine TL_q (Qt_loadN rfl rfl) rfl ?_
    refine TL_frontB p ?_
    rw [show rdText (b.l.drop (8 + 32)) 65536 = bodyR b.l from rfl]
    refine TL_eP rfl (EfP_call (rparts_c (b := b) (k := 8 + 32 + (bodyR b.l).2.2) hkb hl) rfl (fun x41 => ?_) (fun y => X_then_panic (X_pure fun hy => X_pan () (by rw [msgR_rest (by omega) hbz hy]; rfl) (fun w hw => (Subs.st inferInstance w hw : St w0 H w).addPure (by rw [msgR_rest (by omega) hbz hy]; exact hy)))))
    refine TL_pure (fun h41 => ?_)
    have h41 : restR b.l = (0, x41.1.ls.map BS.l, (restR b.l).2.2) := h41
    have hrz : (restR b.l).1 = 0 := congrArg Prod.fst h41
    have h411 : (restR b.l).2.1 = x41.1.ls.map BS.l := congrArg (fun z => z.2.1) h41
    rw [show partsR (b.l.drop (8 + 32 + (bodyR b.l).2.2)) = restR b.l from rfl]
    have hkq : 8 + 32 + (bodyR b.l).2.2 + (restR b.l).2.2 ≤ b.l.length := by have h : (restR b.l).2.2 ≤ (b.l.drop (8 + 32 + (bodyR b.l).2.2)).length := partsR_bound (b.l.drop (8 + 32 + (bodyR b.l).2.2)); rw [List.length_drop] at h; omega
    refine TL_q (Qt_fieldAddr 38 rfl rfl) rfl ?_
    refine TL_n (Ef_store1 (.slice _ _ _) rfl rfl (?_))
    refine TL_nil ?_
    refine X_then ?_
    refine T_seq ?_
    refine T_region ?_
    refine TL_q (Qt_fieldAddr 0 rfl rfl) rfl ?_
    refine TL_q (Qt_load1 rfl) rfl ?_
    refine TL_frontB p ?_
    refine TL_e rfl (Ef_call (done_c (b := b) (k := 8 + 32 + (bodyR b.l).2.2 + (restR b.l).2.2) hkq hl) rfl (fun x45 => ?_))
    refine TL_eP rfl (EfP_call (need_c) rfl (fun x46 => ?_) (fun y => X_then_panic (X_pure fun hy => have hm : 8 + 32 + (bodyR b.l).2.2 + (restR b.l).2.2 < b.l.length := (by by_cases h : 8 + 32 + (bodyR b.l).2.2 + (restR b.l).2.2 < b.l.length; exact h; rw [if_neg h] at hy; exact absurd rfl hy); X_pan () (by rw [if_pos hm, msgR_more (by omega) hbz hrz hm]) (fun w hw => (Subs.st inferInstance w hw : St w0 H w).addPure (by rw [msgR_more (by omega) hbz hrz hm]; decide)))))
    refine TL_pure (fun hy => ?_)
    have hm : ¬ 8 + 32 + (bodyR b.l).2.2 + (restR b.l).2.2 < b.l.length := by intro h; rw [if_pos h] at hy; exact absurd hy (by decide)
    refine TL_nil ?_
    refine X_then ?_
    refine T_seq ?_
    refine T_seq ?_
    refine T_region ?_
    refine TL_q (Qt_loadN rfl rfl) rfl ?_
    have hab : ((MsgV.mk ((beN ((b.l.drop (0)).take 1) : Nat) : Int) ((beN ((b.l.drop (0 + 1)).take 1) : Nat) : Int) ((beN ((b.l.drop (0 + 1 + 1)).take 2) : Nat) : Int) ((beN ((b.l.drop (0 + 1 + 1 + 2)).take 2) : Nat) : Int) ((beN ((b.l.drop (0 + 1 + 1 + 2 + 2)).take 2) : Nat) : Int) (hashAt b.l) ⟨x38.a, x38.c, (bodyR b.l).2.1⟩ x41.1)).abs = readM b.l := by simp only [MsgV.abs, readM, be, h411]
    refine TL_e rfl (Ef_call (wformed_c (m := (MsgV.mk ((beN ((b.l.drop (0)).take 1) : Nat) : Int) ((beN ((b.l.drop (0 + 1)).take 1) : Nat) : Int) ((beN ((b.l.drop (0 + 1 + 1)).take 2) : Nat) : Int) ((beN ((b.l.drop (0 + 1 + 1 + 2)).take 2) : Nat) : Int) ((beN ((b.l.drop (0 + 1 + 1 + 2 + 2)).take 2) : Nat) : Int) (hashAt b.l) ⟨x38.a, x38.c, (bodyR b.l).2.1⟩ x41.1))) rfl (fun x48 => ?_))
    refine TL_q (Qt_not rfl) rfl ?_
    refine TL_nil ?_
    refine X_then ?_
    refine T_cond rfl (fun h49 => ?_) (fun h49 => ?_)
    ·
      have p49 := h49
      try simp only [decide_eq_true_eq, decide_eq_false_iff_not, Bool.not_eq_true', Bool.not_eq_false', Option.isNone_iff_eq_none, ne_eq, Decidable.not_not, Int.not_lt, Int.not_le] at p49
      refine T_region ?_
      refine TL_eP rfl (EfP_call (need_c) rfl (fun x50 => ?_) (fun y => X_then_panic (X_pure fun hy => have hx : msgR b.l = (15, .zero) := (by rw [msgR_end (by omega) hbz hrz hm, if_neg (by rw [← hab, p49]; decide)]); X_pan () (by rw [hx]) (fun w hw => (Subs.st inferInstance w hw : St w0 H w).addPure (by rw [hx]; decide)))))
      exact TL_pure (fun h15 => absurd h15 (by decide))
    ·
      have p49 := h49
      try simp only [decide_eq_true_eq, decide_eq_false_iff_not, Bool.not_eq_true', Bool.not_eq_false', Option.isNone_iff_eq_none, ne_eq, Decidable.not_not, Int.not_lt, Int.not_le] at p49
      refine T_skip ?_
      refine X_then ?_
      refine T_seq ?_
      refine T_region ?_
      refine TL_q (Qt_loadN rfl rfl) rfl ?_
      refine TL_n (Ef_storeN rfl rfl (?_))
      refine TL_nil ?_
      refine X_then ?_
      refine T_ret ?_
      have hx : msgR b.l = (0, ((MsgV.mk ((beN ((b.l.drop (0)).take 1) : Nat) : Int) ((beN ((b.l.drop (0 + 1)).take 1) : Nat) : Int) ((beN ((b.l.drop (0 + 1 + 1)).take 2) : Nat) : Int) ((beN ((b.l.drop (0 + 1 + 1 + 2)).take 2) : Nat) : Int) ((beN ((b.l.drop (0 + 1 + 1 + 2 + 2)).take 2) : Nat) : Int) (hashAt b.l) ⟨x38.a, x38.c, (bodyR b.l).2.1⟩ x41.1)).abs) := by rw [msgR_end (by omega) hbz hrz hm, hab, if_pos (by rw [← hab]; simpa using h49)]
      refine X_conv (fun w hw => St.datMsg (m := (MsgV.mk ((beN ((b.l.drop (0)).take 1) : Nat) : Int) ((beN ((b.l.drop (0 + 1)).take 1) : Nat) : Int) ((beN ((b.l.drop (0 + 1 + 1)).take 2) : Nat) : Int) ((beN ((b.l.drop (0 + 1 + 1 + 2)).take 2) : Nat) : Int) ((beN ((b.l.drop (0 + 1 + 1 + 2 + 2)).take 2) : Nat) : Int) (hashAt b.l) ⟨x38.a, x38.c, (bodyR b.l).2.1⟩ x41.1)) (fp := x41.2) (e := 36) (e2 := 5) (H := blk b2 (.cells ((MsgV.mk ((beN ((b.l.drop (0)).take 1) : Nat) : Int) ((beN ((b.l.drop (0 + 1)).take 1) : Nat) : Int) ((beN ((b.l.drop (0 + 1 + 1)).take 2) : Nat) : Int) ((beN ((b.l.drop (0 + 1 + 1 + 2)).take 2) : Nat) : Int) ((beN ((b.l.drop (0 + 1 + 1 + 2 + 2)).take 2) : Nat) : Int) (hashAt b.l) ⟨x38.a, x38.c, (bodyR b.l).2.1⟩ x41.1)).cells 43 (0, 0)) :: H) (Subs.st inferInstance w hw)) (fun fp2 => ?_)
      exact X_retP ((MsgV.mk ((beN ((b.l.drop (0)).take 1) : Nat) : Int) ((beN ((b.l.drop (0 + 1)).take 1) : Nat) : Int) ((beN ((b.l.drop (0 + 1 + 1)).take 2) : Nat) : Int) ((beN ((b.l.drop (0 + 1 + 1 + 2)).take 2) : Nat) : Int) ((beN ((b.l.drop (0 + 1 + 1 + 2 + 2)).take 2) : Nat) : Int) (hashAt b.l) ⟨x38.a, x38.c, (bodyR b.l).2.1⟩ x41.1), fp2) [_] Try.results40 ⟨⟨_, rfl, res_cellN rfl⟩, trivial⟩ rfl (fun w hw => (Subs.st inferInstance w hw : St w0 (dat fp2 (Deep.leads (MsgV.mk ((beN ((b.l.drop (0)).take 1) : Nat) : Int) ((beN ((b.l.drop (0 + 1)).take 1) : Nat) : Int) ((beN ((b.l.drop (0 + 1 + 1)).take 2) : Nat) : Int) ((beN ((b.l.drop (0 + 1 + 1 + 2)).take 2) : Nat) : Int) ((beN ((b.l.drop (0 + 1 + 1 + 2 + 2)).take 2) : Nat) : Int) (hashAt b.l) ⟨x38.a, x38.c, (bodyR b.l).2.1⟩ x41.1)) :: H) w).addPure hx)
end Go.Proofs.Ytnijomppbgdmnaa
