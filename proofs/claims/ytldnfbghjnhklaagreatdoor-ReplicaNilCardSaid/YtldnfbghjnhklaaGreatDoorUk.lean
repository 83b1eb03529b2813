/- Key tables of their own; walks: New of packages stops, inst, xfer, queue, clock; own of package replica; the law's config. -/
import Derived.Test.YtldnfbghjnhklaaGreatDoorPd
import Derived.Test.YtldnfbghjnhklaaGreatDoorTr
namespace Go.Proofs.YtldnfbghjnhklaaGreatDoor
open Go.RowKit Go.Sx
set_option maxRecDepth 100000
set_option linter.unusedSimpArgs false
set_option linter.unusedVariables false
/-- A block of which the cells are one of many. -/
def exB {ι : Type} (p : Nat) (t : TypeId) (f : ι → Array Value) : SA := ⟨[p], fun w => ∃ i, w.heap[p]? = some (.cells (f i) t (0, 0)), fun w w' h hp => by
  obtain ⟨i, hi⟩ := hp
  exact ⟨i, by rw [h p (by simp)]; exact hi⟩⟩
theorem St.toEx {w0 w : World} {H : List SA} {ι : Type} {p : Nat} {t : TypeId} {f : ι → Array Value} (i : ι) (h : St w0 (blk p (.cells (f i) t (0, 0)) :: H) w) : St w0 (exB p t f :: H) w :=
  ⟨h.below, h.nodup, fun x hx => by
    rcases List.mem_cons.1 hx with rfl | hx
    · exact ⟨i, h.holds (blk p (.cells (f i) t (0, 0))) (by simp)⟩
    · exact h.holds x (by simp [hx]), fun x hx => by
    rcases List.mem_cons.1 hx with rfl | hx
    · exact h.lo (blk p (.cells (f i) t (0, 0))) (by simp)
    · exact h.lo x (by simp [hx])⟩
section
variable {P : Program} {w0 : World} {H : List SA} {σ : Env} {d : Option Nat} {ty : TypeId} {pos : String} {aft : Array Edge} {g : Option (Nat × Bool)}
theorem Qt_loadX1 {ι : Type} {f : ι → Array Value} {x : Operand} {t p o u : Nat} (v : Value) (hin : exB p u f ∈ H) (h : ev σ x = .pointer (some ⟨p, o, none⟩)) [h1 : Ty1 P t] (hc : ∀ i, CellAt (f i) o v) : Qt P w0 H σ ⟨d, .load t x, ty, pos, aft, g⟩ v :=
  Qt_load1' v h (fun w hw => by obtain ⟨i, hi⟩ := hw.holds _ hin; rw [cell_of_blk hi]; exact (hc i).ok)
theorem Qt_loadXN {ι : Type} {f : ι → Array Value} {x : Operand} {t p o n m u : Nat} (sub : Array Value) (hin : exB p u f ∈ H) (h : ev σ x = .pointer (some ⟨p, o, none⟩)) [h1 : TyN P t n] (hz : ∀ i, (f i).size = m) (hc : ∀ i, SubAt (f i) o n sub) (hn : Nat.ble (o + n) m = true) : Qt P w0 H σ ⟨d, .load t x, ty, pos, aft, g⟩ (.agg sub) := fun w hw => by
  obtain ⟨i, hi⟩ := hw.holds _ hin
  have := run_loadVar_N h1 hi (by rw [hz i]; exact Nat.le_of_ble_eq_true hn)
  rw [(hc i).ok] at this
  simp only [execOp, h, Instr.loadAt, Instr.sureAddr, Sem.run_bind, Sem.run_pure, Result.andThen_ok, this]
end
theorem St.datEach {w0 w : World} {H : List SA} {fp : List Nat} {ls : List BS} (h : St w0 (eachA fp ls :: H) w) : St w0 (dat fp ⟨ls, [], []⟩ :: H) w :=
  h.turn rfl fun hp => ⟨fun y hy => hp y hy, fun _ h => (by cases h), fun _ h => (by cases h), fun _ h => (by cases h)⟩
def keyT (n : Nat) : List (List UInt8) := (List.range n).map fun i => [UInt8.ofNat i]
theorem keyT_succ (n : Nat) : keyT (n + 1) = keyT n ++ [[UInt8.ofNat n]] := by simp [keyT, List.range_succ]
theorem keyT_small {ls : List BS} {n : Nat} (hn : n ≤ 1000) (h : ls.map BS.l = keyT n) : ls.length ≤ 1000 ∧ ∀ x ∈ ls, x.l.length ≤ 4294967000 := by
  refine ⟨by have := congrArg List.length h; simp [keyT] at this; omega, fun x hx => ?_⟩
  have : x.l ∈ keyT n := by rw [← h]; exact List.mem_map.2 ⟨x, hx, rfl⟩
  obtain ⟨i, -, hi⟩ := List.mem_map.1 this
  rw [← hi]; simp
theorem St.datPS {w0 w : World} {H : List SA} {a : Option Addr} {c : Nat} {ls : List BS} {fp : List Nat} {e : TypeId} (h : St w0 (row (.slice a ls.length c) e 1 (ls.map BS.val) :: eachA fp ls :: H) w) : ∃ fp, St w0 (dat fp (Deep.leads (PS.mk a c ls)) :: H) w := by
  have h1 : St w0 (eachA fp ls :: row (.slice a ls.length c) e 1 (ls.map BS.val) :: H) w := Subs.st inferInstance w h
  have h2 := St.datEach h1
  have h3 : St w0 (row (.slice a ls.length c) e 1 (ls.map BS.val) :: dat fp ⟨ls, [], []⟩ :: H) w := Subs.st inferInstance w h2
  exact ⟨_, St.datP (x := ⟨a, c, ls⟩) h3⟩
instance RdC.datK {w0 : World} {H : List SA} {fp : List Nat} {a : Option Addr} {c : Nat} {ls : List BS} : RdC w0 (dat fp (Deep.leads (PS.mk a c ls)) :: H) (.slice a ls.length c) 1 (ls.map BS.val) := RdC.ofPS (x := ⟨a, c, ls⟩)
instance RdE.datK {w0 : World} {H : List SA} {fp : List Nat} {a : Option Addr} {c : Nat} {ls : List BS} : RdE w0 (dat fp (Deep.leads (PS.mk a c ls)) :: H) ls := RdE.ofPS (x := ⟨a, c, ls⟩)
set_option maxHeartbeats 1000000 in
theorem cloneHnil_c {w0 : World} {H : List SA}  :
    CT Tryz.prog w0 (H) 86 [.slice none 0 0] (α := Unit) (fun _ => .slice none 0 0) (fun _ => H) := by
  refine CT_intro Tryz.func86 rfl Tryz.ntmps86 rfl ?_
  refine T_seq ?_
  refine T_region ?_
  refine TL_q (Qt_assign (.slice _ _ _) rfl) rfl ?_
  refine TL_nil ?_
  refine X_then ?_
  refine T_seq ?_
  refine T_seq ?_
  refine T_region ?_
  refine TL_q (Qt_move (.slice _ _ _) rfl) rfl ?_
  refine TL_q (Qt_slice_nil rfl rfl Tryz.underlying52) rfl ?_
  refine TL_nil ?_
  refine X_then ?_
  refine T_cond rfl (fun h4 => ?_) (fun h4 => ?_)
  ·
    have p4 := h4
    try simp only [decide_eq_true_eq, decide_eq_false_iff_not, Bool.not_eq_true', Bool.not_eq_false', Option.isNone_iff_eq_none, ne_eq, Decidable.not_not, Int.not_lt, Int.not_le] at p4
    refine T_seq ?_
    refine T_region ?_
    refine TL_q (Qt_assign (.slice _ _ _) rfl) rfl ?_
    refine TL_nil ?_
    refine X_then ?_
    refine T_ret ?_
    refine X_then_ret ?_
    exact X_ret () [_] Tryz.results86 ⟨rfl, trivial⟩ rfl (Subs.st inferInstance)
  ·
    have p4 := h4
    try simp only [decide_eq_true_eq, decide_eq_false_iff_not, Bool.not_eq_true', Bool.not_eq_false', Option.isNone_iff_eq_none, ne_eq, Decidable.not_not, Int.not_lt, Int.not_le] at p4
    cases h4
set_option maxHeartbeats 1000000 in
theorem queueNew_c {w0 : World} {H : List SA}  :
    CT Tryz.prog w0 (H) 34 [] (α := Nat) (fun y => .pointer (some ⟨y, 0, none⟩)) (fun _ => H) := by
  refine CT_intro Tryz.func34 rfl Tryz.ntmps34 rfl ?_
  refine T_seq ?_
  refine T_region ?_
  refine TL_q (Qt_assign (.pointer _) rfl) rfl ?_
  refine TL_nil ?_
  refine X_then ?_
  refine T_seq ?_
  refine T_region ?_
  refine TL_e rfl (Ef_makeMap encI encI (fun r1 => ?_))
  refine TL_q (Qt_build [(1, (.map _))] rfl (by kernel_rfl)) rfl ?_
  refine TL_e rfl (Ef_boxN rfl (fun b3 => ?_))
  refine TL_q (Qt_assign (.pointer _) rfl) rfl ?_
  refine TL_nil ?_
  refine X_then ?_
  refine T_ret ?_
  exact X_ret b3 [_] Tryz.results34 ⟨rfl, trivial⟩ rfl (Subs.st inferInstance)
set_option maxHeartbeats 1000000 in
theorem held_c {w0 : World} {H : List SA} {n : Int} (h0 : 1 ≤ n) (h1 : n ≤ 1000) :
    CT Tryz.prog w0 (H) 88 [.int .i64 n] (α := Unit) (fun _ => .int .i64 n) (fun _ => H) := by
  refine CT_intro Tryz.func88 rfl Tryz.ntmps88 rfl ?_
  refine T_seq ?_
  refine T_region ?_
  refine TL_q (Qt_assign (.int .i64 _) rfl) rfl ?_
  refine TL_nil ?_
  refine X_then ?_
  refine T_seq ?_
  refine T_region ?_
  refine TL_q (Qt_move (.int .i64 _) rfl) rfl ?_
  refine TL_q (Qt_min rfl rfl) rfl ?_
  refine TL_q (Qt_max rfl rfl) rfl ?_
  refine TL_q (Qt_assign (.int .i64 _) rfl) rfl ?_
  refine TL_nil ?_
  refine X_then ?_
  refine T_ret ?_
  exact X_ret () [_] Tryz.results88 ⟨rfl, trivial⟩ (congrArg (Value.int .i64) (by omega)) (Subs.st inferInstance)
set_option maxHeartbeats 1000000 in
theorem clockNew_c {w0 : World} {H : List SA}  :
    CT Tryz.prog w0 (H) 35 [.int .i64 2, .int .i64 8] (α := Nat) (fun y => .pointer (some ⟨y, 0, none⟩)) (fun _ => H) := by
  refine CT_intro Tryz.func35 rfl Tryz.ntmps35 rfl ?_
  refine T_seq ?_
  refine T_region ?_
  refine TL_q (Qt_assign (.pointer _) rfl) rfl ?_
  refine TL_nil ?_
  refine X_then ?_
  refine T_seq ?_
  refine T_region ?_
  refine TL_q (Qt_move (.int .i64 _) rfl) rfl ?_
  refine TL_e rfl (Ef_call (held_c (n := 2) (by decide) (by decide)) rfl (fun x6 => ?_))
  refine TL_q (Qt_move (.int .i64 _) rfl) rfl ?_
  refine TL_e rfl (Ef_call (held_c (n := 8) (by decide) (by decide)) rfl (fun x8 => ?_))
  refine TL_q (Qt_build [(0, (.int .i64 _)), (1, (.int .i64 _))] rfl (by kernel_rfl)) rfl ?_
  refine TL_e rfl (Ef_boxN rfl (fun b10 => ?_))
  refine TL_q (Qt_assign (.pointer _) rfl) rfl ?_
  refine TL_nil ?_
  refine X_then ?_
  refine T_ret ?_
  exact X_ret b10 [_] Tryz.results35 ⟨rfl, trivial⟩ rfl (Subs.st inferInstance)
set_option maxHeartbeats 1000000 in
theorem own_c {w0 : World} {H : List SA} {sa : Option Addr} {sc : Nat} {ls : List BS} [rk : RdC w0 H (.slice sa ls.length sc) 1 (ls.map BS.val)] [rke : RdE w0 H ls] (hkl : ∀ x ∈ ls, x.l.length ≤ 4294967000) (hn : ls.length ≤ 1000) :
    CT Tryz.prog w0 (H) 32 [.agg (KeysV.mk ⟨sa, sc, ls⟩ ⟨none, 0, 0⟩).cells] (α := PS × List Nat) (fun y => .agg (KeysV.mk ⟨y.1.a, y.1.c, y.1.ls⟩ ⟨none, 0, 0⟩).cells) (fun y => pu (y.1.ls.map BS.l = ls.map BS.l) :: dat y.2 (Deep.leads (PS.mk y.1.a y.1.c y.1.ls)) :: H) := by
  refine CT_intro Tryz.func32 rfl Tryz.ntmps32 rfl ?_
  refine T_seq ?_
  refine T_region ?_
  refine TL_e rfl (Ef_boxN rfl (fun b1 => ?_))
  refine TL_e rfl (Ef_allocN (fun b2 => ?_))
  refine TL_nil ?_
  refine X_then ?_
  refine T_seq ?_
  refine T_region ?_
  refine TL_q (Qt_assign (.slice _ _ _) rfl) rfl ?_
  refine TL_nil ?_
  refine X_then ?_
  refine T_seq ?_
  refine T_seq ?_
  refine T_region ?_
  refine TL_q (Qt_fieldAddr 0 rfl rfl) rfl ?_
  refine TL_q (Qt_load1 rfl) rfl ?_
  refine TL_q (Qt_len_slice rfl Tryz.underlying46) rfl ?_
  refine TL_q (Qt_move (.int .i64 _) rfl) rfl ?_
  refine TL_nil ?_
  refine X_then ?_
  refine T_block ?_
  refine T_loop [3, 5, 9, 10, 11, 12, 13, 14, 15, 16, 17, 18] [9, 3] (fun us H' => ∃ (k : Nat) (a : Option Addr) (c : Nat) (os : List BS) (fp : List Nat), us = [.int .i64 (k : Int), .slice a os.length c] ∧ row (.slice a (os).length c) 22 1 ((os).map BS.val) :: eachA fp os :: blk b1 (.cells (KeysV.mk ⟨sa, sc, ls⟩ ⟨none, 0, 0⟩).cells 59 (0, 0)) :: blk b2 (.cells KeysV.zero.cells 59 (0, 0)) :: H = H' ∧ k ≤ ls.length ∧ (os.map BS.l = (ls.map BS.l).take k) ∧ (os.length = k)) (fun us => match us with | .int _ i :: _ => ls.length - i.toNat | _ => 0) ⟨0, none, 0, [], [], rfl, rfl, by omega, rfl, rfl⟩ (fun w hw => by
        have h0 : St w0 (blk b1 (.cells (KeysV.mk ⟨sa, sc, ls⟩ ⟨none, 0, 0⟩).cells 59 (0, 0)) :: blk b2 (.cells KeysV.zero.cells 59 (0, 0)) :: H) w := Subs.st inferInstance w hw
        exact (h0.eachNil).addNil 22 1) ?_
  rintro τ0 _ _  ⟨k, a, c, os, fp, rfl, rfl, hk0, hos, hol⟩ _
  refine T_seq ?_
  refine T_region ?_
  refine TL_q (Qt_lss rfl rfl) rfl ?_
  refine TL_nil ?_
  refine X_then ?_
  refine T_seq ?_
  refine T_cond rfl (fun h10 => ?_) (fun h10 => ?_)
  ·
    have p10 := h10
    try simp only [decide_eq_true_eq, decide_eq_false_iff_not, Bool.not_eq_true', Bool.not_eq_false', Option.isNone_iff_eq_none, ne_eq, Decidable.not_not, Int.not_lt, Int.not_le] at p10
    have hk : k < ls.length := by omega
    refine T_skip ?_
    refine X_then ?_
    refine T_seq ?_
    refine T_block ?_
    refine T_seq ?_
    refine T_region ?_
    refine TL_q (Qt_indexR rfl rfl (by omega) (by simp; omega)) rfl ?_
    refine TL_q (Qt_loadR (.slice _ _ _) rfl (vals_get _ _ hk)) rfl ?_
    refine TL_q (Qt_assign (.slice _ _ _) rfl) rfl ?_
    refine TL_nil ?_
    refine X_then ?_
    refine T_region ?_
    refine TL_q (Qt_move (.slice _ _ _) rfl) rfl ?_
    refine TL_q (Qt_move (.slice _ _ _) rfl) rfl ?_
    have : RdB w0 H (.slice ls[k].a ls[k].l.length ls[k].c) ls[k].l := rke.get (List.getElem_mem hk)
    refine TL_e rfl (Ef_call (clone_c (by have := hkl _ (List.getElem_mem hk); omega)) rfl (fun x15 => ?_))
    refine TL_e rfl (Ef_slice1 (v := .slice _ _ _) rfl (fun a16 c16 => ?_))
    refine TL_e rfl (Ef_appendP (sv := .slice _ _ _) (xv := .slice _ _ _) ⟨x15.a, x15.c, ls[k].l⟩ rfl rfl (by omega) rfl (fun a17 c17 => ?_))
    refine TL_q (Qt_assign (.slice _ _ _) rfl) rfl ?_
    refine TL_nil ?_
    refine X_block ?_
    refine X_then ?_
    refine T_region ?_
    first
      | refine TL_q (Qt_add rfl rfl (by omega) (by omega)) rfl ?_
      | refine TL_q (Qt_addw rfl rfl) rfl ?_
    refine TL_q (Qt_move (.int .i64 _) rfl) rfl ?_
    refine TL_nil ?_
    apply X_loop
    case ha => exact (by repeat (first | with_reducible exact agree_refl | refine agree_upd rfl ?_ | refine agree_mix rfl ?_ | refine agree_setAll rfl ?_))
    case hI => exact ⟨k + 1, a17, c17, os ++ [⟨x15.a, x15.c, ls[k].l⟩], rowFp (.slice x15.a ls[k].l.length x15.c) ++ fp, rfl, rfl, by omega, by rw [List.map_append, hos, take_get _ _ (by simpa using hk)]; simp, by simp [hol]⟩
    case hm => exact by show ls.length - (k + 1 : Int).toNat < ls.length - (k : Int).toNat; omega
    case hH => exact fun w hw => eachUnder (Subs.st inferInstance w hw : St w0 (row (.slice a17 (os ++ [(⟨x15.a, x15.c, ls[k].l⟩ : BS)]).length c17) 22 1 ((os ++ [(⟨x15.a, x15.c, ls[k].l⟩ : BS)]).map BS.val) :: row (BS.val ⟨x15.a, x15.c, ls[k].l⟩) 5 1 (bytesV (BS.l ⟨x15.a, x15.c, ls[k].l⟩)) :: eachA fp os :: blk b1 (.cells (KeysV.mk ⟨sa, sc, ls⟩ ⟨none, 0, 0⟩).cells 59 (0, 0)) :: blk b2 (.cells KeysV.zero.cells 59 (0, 0)) :: H) w)
  ·
    have p10 := h10
    try simp only [decide_eq_true_eq, decide_eq_false_iff_not, Bool.not_eq_true', Bool.not_eq_false', Option.isNone_iff_eq_none, ne_eq, Decidable.not_not, Int.not_lt, Int.not_le] at p10
    have hos : os.map BS.l = ls.map BS.l := by rw [hos]; exact List.take_of_length_le (by simp; omega)
    refine T_exit ?_
    refine X_then_exit ?_
    refine X_loop_exit ?_
    refine X_block_exit ?_
    refine X_then ?_
    refine T_seq ?_
    refine T_region ?_
    refine TL_q (Qt_move (.slice _ _ _) rfl) rfl ?_
    refine TL_q (Qt_fieldAddr 1 rfl rfl) rfl ?_
    refine TL_q (Qt_load1 rfl) rfl ?_
    refine TL_e rfl (Ef_call (cloneHnil_c) rfl (fun x22 => ?_))
    refine TL_q (Qt_build [(0, .slice _ _ _), (1, .slice _ _ _)] rfl (by kernel_rfl)) rfl ?_
    refine TL_n (Ef_storeN rfl rfl (?_))
    refine TL_nil ?_
    refine X_then ?_
    refine T_ret ?_
    refine X_conv (fun w hw => St.datPS (a := a) (c := c) (ls := os) (fp := fp) (e := 22) (H := blk b2 (.cells (KeysV.mk ⟨a, c, os⟩ ⟨none, 0, 0⟩).cells 59 (0, 0)) :: H) (Subs.st inferInstance w hw)) (fun fp2 => ?_)
    exact X_ret (⟨a, c, os⟩, fp2) [_] Tryz.results32 ⟨⟨_, rfl, res_cellN rfl⟩, trivial⟩ rfl (fun w hw => (Subs.st inferInstance w hw : St w0 (dat fp2 (Deep.leads (PS.mk a c os)) :: H) w).addPure hos)
set_option maxHeartbeats 1000000 in
theorem stopsNew_c {w0 : World} {H : List SA} {num : Int} {mk : Nat} {sa : Option Addr} {sc : Nat} {ls : List BS} [rk : RdC w0 H (.slice sa ls.length sc) 1 (ls.map BS.val)] [rke : RdE w0 H ls] (hkl : ∀ x ∈ ls, x.l.length ≤ 4294967000) (hn : ls.length ≤ 1000) :
    CT Tryz.prog w0 (H) 90 [.agg (KeysV.mk ⟨sa, sc, ls⟩ ⟨none, 0, 0⟩).cells, .agg (ViewV.mk num (mk : Int)).cells] (α := Nat) (fun y => .pointer (some ⟨y, 0, none⟩)) (fun _ => H) := by
  refine CT_intro Tryz.func90 rfl Tryz.ntmps90 rfl ?_
  refine T_seq ?_
  refine T_region ?_
  refine TL_e rfl (Ef_boxN rfl (fun b2 => ?_))
  refine TL_e rfl (Ef_boxN rfl (fun b3 => ?_))
  refine TL_q (Qt_assign (.pointer _) rfl) rfl ?_
  refine TL_nil ?_
  refine X_then ?_
  refine T_seq ?_
  refine T_region ?_
  refine TL_e rfl (Ef_allocN (fun b5 => ?_))
  refine TL_nil ?_
  refine X_then ?_
  refine T_seq ?_
  refine T_seq ?_
  refine T_region ?_
  refine TL_q (Qt_fieldAddr 0 rfl rfl) rfl ?_
  refine TL_q (Qt_load1 rfl) rfl ?_
  refine TL_q (Qt_len_slice rfl Tryz.underlying46) rfl ?_
  refine TL_q (Qt_move (.int .i64 _) rfl) rfl ?_
  refine TL_nil ?_
  refine X_then ?_
  refine T_block ?_
  refine T_loop [7, 11, 12, 13, 14, 15, 16, 17, 18, 19, 20, 21, 22] [11] (fun us H' => ∃ (k : Nat) (a : Option Addr) (c : Nat) (os : List BS) (fp : List Nat), us = [.int .i64 (k : Int)] ∧ row (.slice a (os).length c) 22 1 ((os).map BS.val) :: eachA fp os :: blk b5 (.cells (KeysV.mk ⟨a, c, os⟩ ⟨none, 0, 0⟩).cells 59 (0, 0)) :: blk b2 (.cells (KeysV.mk ⟨sa, sc, ls⟩ ⟨none, 0, 0⟩).cells 59 (0, 0)) :: blk b3 (.cells (ViewV.mk num (mk : Int)).cells 32 (0, 0)) :: H = H' ∧ k ≤ ls.length ∧ (os.map BS.l = (ls.map BS.l).take k) ∧ (os.length = k)) (fun us => match us with | .int _ i :: _ => ls.length - i.toNat | _ => 0) ⟨0, none, 0, [], [], rfl, rfl, by omega, rfl, rfl⟩ (fun w hw => by
        have h0 : St w0 (blk b5 (.cells (KeysV.mk ⟨none, 0, []⟩ ⟨none, 0, 0⟩).cells 59 (0, 0)) :: blk b2 (.cells (KeysV.mk ⟨sa, sc, ls⟩ ⟨none, 0, 0⟩).cells 59 (0, 0)) :: blk b3 (.cells (ViewV.mk num (mk : Int)).cells 32 (0, 0)) :: H) w := Subs.st inferInstance w hw
        exact (h0.eachNil).addNil 22 1) ?_
  rintro τ0 _ _  ⟨k, a, c, os, fp, rfl, rfl, hk0, hos, hol⟩ _
  refine T_seq ?_
  refine T_region ?_
  refine TL_q (Qt_lss rfl rfl) rfl ?_
  refine TL_nil ?_
  refine X_then ?_
  refine T_seq ?_
  refine T_cond rfl (fun h12 => ?_) (fun h12 => ?_)
  ·
    have p12 := h12
    try simp only [decide_eq_true_eq, decide_eq_false_iff_not, Bool.not_eq_true', Bool.not_eq_false', Option.isNone_iff_eq_none, ne_eq, Decidable.not_not, Int.not_lt, Int.not_le] at p12
    have hk : k < ls.length := by omega
    refine T_skip ?_
    refine X_then ?_
    refine T_seq ?_
    refine T_block ?_
    refine T_seq ?_
    refine T_region ?_
    refine TL_q (Qt_indexR rfl rfl (by omega) (by simp; omega)) rfl ?_
    refine TL_q (Qt_loadR (.slice _ _ _) rfl (vals_get _ _ hk)) rfl ?_
    refine TL_q (Qt_assign (.slice _ _ _) rfl) rfl ?_
    refine TL_nil ?_
    refine X_then ?_
    refine T_drawF H (by kernel_rfl) (Subs.st inferInstance) ?_
    refine DLF_q (i := 0) (by kernel_rfl) rfl (by kernel_rfl) (by kernel_rfl) (Qt_fieldAddr 0 rfl rfl) rfl ?_
    refine DLF_q (i := 2) (by kernel_rfl) rfl (by kernel_rfl) (by kernel_rfl) (Qt_move (.slice _ _ _) rfl) rfl ?_
    refine DLF_2 (i := 1) (j := 3) (by kernel_rfl) ?_ ?_
    ·
      refine DLS_e rfl rfl (Ef_of_Qt (Qt_load1 rfl) ⟨(Subs.st inferInstance), ?_⟩)
      refine DLF_1 (i := 3) (by kernel_rfl) ?_
      have : RdB w0 H (.slice ls[k].a ls[k].l.length ls[k].c) ls[k].l := rke.get (List.getElem_mem hk)
      refine DLS_e rfl rfl (Ef_call (clone_c (by have := hkl _ (List.getElem_mem hk); omega)) rfl (fun x18 => ⟨(Subs.st inferInstance), ?_⟩))
      refine DLF_1 (i := 4) (by kernel_rfl) ?_
      refine DLS_e rfl rfl (Ef_slice1 (v := .slice _ _ _) rfl (fun a19 c19 => ⟨(Subs.st inferInstance), ?_⟩))
      refine DLF_1 (i := 5) (by kernel_rfl) ?_
      refine DLS_e rfl rfl (Ef_appendP (sv := .slice _ _ _) (xv := .slice _ _ _) ⟨x18.a, x18.c, ls[k].l⟩ rfl rfl (by omega) rfl (fun a20 c20 => ⟨(Subs.st inferInstance), ?_⟩))
      refine DLF_q (i := 6) (by kernel_rfl) rfl (by kernel_rfl) (by kernel_rfl) (Qt_fieldAddr 0 rfl rfl) rfl ?_
      refine DLF_1 (i := 7) (by kernel_rfl) ?_
      refine DLS_n rfl (Ef_store1 (.slice _ _ _) rfl rfl (⟨(Subs.st inferInstance), ?_⟩))
      refine DLF_nil (by kernel_rfl) ?_
      refine X_block ?_
      refine X_then ?_
      refine T_region ?_
      first
        | refine TL_q (Qt_add rfl rfl (by omega) (by omega)) rfl ?_
        | refine TL_q (Qt_addw rfl rfl) rfl ?_
      refine TL_q (Qt_move (.int .i64 _) rfl) rfl ?_
      refine TL_nil ?_
      apply X_loop
      case ha => exact (by repeat (first | with_reducible exact agree_refl | refine agree_upd rfl ?_ | refine agree_mix rfl ?_ | refine agree_setAll rfl ?_))
      case hI => exact ⟨k + 1, a20, c20, os ++ [⟨x18.a, x18.c, ls[k].l⟩], rowFp (.slice x18.a ls[k].l.length x18.c) ++ fp, rfl, rfl, by omega, by rw [List.map_append, hos, take_get _ _ (by simpa using hk)]; simp, by simp [hol]⟩
      case hm => exact by show ls.length - (k + 1 : Int).toNat < ls.length - (k : Int).toNat; omega
      case hH => exact fun w hw => eachUnder (Subs.st inferInstance w hw : St w0 (row (.slice a20 (os ++ [(⟨x18.a, x18.c, ls[k].l⟩ : BS)]).length c20) 22 1 ((os ++ [(⟨x18.a, x18.c, ls[k].l⟩ : BS)]).map BS.val) :: row (BS.val ⟨x18.a, x18.c, ls[k].l⟩) 5 1 (bytesV (BS.l ⟨x18.a, x18.c, ls[k].l⟩)) :: eachA fp os :: blk b5 (.cells (KeysV.mk ⟨a20, c20, os ++ [⟨x18.a, x18.c, ls[k].l⟩]⟩ ⟨none, 0, 0⟩).cells 59 (0, 0)) :: blk b2 (.cells (KeysV.mk ⟨sa, sc, ls⟩ ⟨none, 0, 0⟩).cells 59 (0, 0)) :: blk b3 (.cells (ViewV.mk num (mk : Int)).cells 32 (0, 0)) :: H) w)
    ·
      have : RdB w0 H (.slice ls[k].a ls[k].l.length ls[k].c) ls[k].l := rke.get (List.getElem_mem hk)
      refine DLS_e rfl rfl (Ef_call (clone_c (by have := hkl _ (List.getElem_mem hk); omega)) rfl (fun x18 => ⟨(Subs.st inferInstance), ?_⟩))
      refine DLF_2 (i := 1) (j := 4) (by kernel_rfl) ?_ ?_
      ·
        refine DLS_e rfl rfl (Ef_of_Qt (Qt_load1 rfl) ⟨(Subs.st inferInstance), ?_⟩)
        refine DLF_1 (i := 4) (by kernel_rfl) ?_
        refine DLS_e rfl rfl (Ef_slice1 (v := .slice _ _ _) rfl (fun a19 c19 => ⟨(Subs.st inferInstance), ?_⟩))
        refine DLF_1 (i := 5) (by kernel_rfl) ?_
        refine DLS_e rfl rfl (Ef_appendP (sv := .slice _ _ _) (xv := .slice _ _ _) ⟨x18.a, x18.c, ls[k].l⟩ rfl rfl (by omega) rfl (fun a20 c20 => ⟨(Subs.st inferInstance), ?_⟩))
        refine DLF_q (i := 6) (by kernel_rfl) rfl (by kernel_rfl) (by kernel_rfl) (Qt_fieldAddr 0 rfl rfl) rfl ?_
        refine DLF_1 (i := 7) (by kernel_rfl) ?_
        refine DLS_n rfl (Ef_store1 (.slice _ _ _) rfl rfl (⟨(Subs.st inferInstance), ?_⟩))
        refine DLF_nil (by kernel_rfl) ?_
        refine X_block ?_
        refine X_then ?_
        refine T_region ?_
        first
          | refine TL_q (Qt_add rfl rfl (by omega) (by omega)) rfl ?_
          | refine TL_q (Qt_addw rfl rfl) rfl ?_
        refine TL_q (Qt_move (.int .i64 _) rfl) rfl ?_
        refine TL_nil ?_
        apply X_loop
        case ha => exact (by repeat (first | with_reducible exact agree_refl | refine agree_upd rfl ?_ | refine agree_mix rfl ?_ | refine agree_setAll rfl ?_))
        case hI => exact ⟨k + 1, a20, c20, os ++ [⟨x18.a, x18.c, ls[k].l⟩], rowFp (.slice x18.a ls[k].l.length x18.c) ++ fp, rfl, rfl, by omega, by rw [List.map_append, hos, take_get _ _ (by simpa using hk)]; simp, by simp [hol]⟩
        case hm => exact by show ls.length - (k + 1 : Int).toNat < ls.length - (k : Int).toNat; omega
        case hH => exact fun w hw => eachUnder (Subs.st inferInstance w hw : St w0 (row (.slice a20 (os ++ [(⟨x18.a, x18.c, ls[k].l⟩ : BS)]).length c20) 22 1 ((os ++ [(⟨x18.a, x18.c, ls[k].l⟩ : BS)]).map BS.val) :: row (BS.val ⟨x18.a, x18.c, ls[k].l⟩) 5 1 (bytesV (BS.l ⟨x18.a, x18.c, ls[k].l⟩)) :: eachA fp os :: blk b5 (.cells (KeysV.mk ⟨a20, c20, os ++ [⟨x18.a, x18.c, ls[k].l⟩]⟩ ⟨none, 0, 0⟩).cells 59 (0, 0)) :: blk b2 (.cells (KeysV.mk ⟨sa, sc, ls⟩ ⟨none, 0, 0⟩).cells 59 (0, 0)) :: blk b3 (.cells (ViewV.mk num (mk : Int)).cells 32 (0, 0)) :: H) w)
      ·
        refine DLS_e rfl rfl (Ef_slice1 (v := .slice _ _ _) rfl (fun a19 c19 => ⟨(Subs.st inferInstance), ?_⟩))
        refine DLF_1 (i := 1) (by kernel_rfl) ?_
        refine DLS_e rfl rfl (Ef_of_Qt (Qt_load1 rfl) ⟨(Subs.st inferInstance), ?_⟩)
        refine DLF_1 (i := 5) (by kernel_rfl) ?_
        refine DLS_e rfl rfl (Ef_appendP (sv := .slice _ _ _) (xv := .slice _ _ _) ⟨x18.a, x18.c, ls[k].l⟩ rfl rfl (by omega) rfl (fun a20 c20 => ⟨(Subs.st inferInstance), ?_⟩))
        refine DLF_q (i := 6) (by kernel_rfl) rfl (by kernel_rfl) (by kernel_rfl) (Qt_fieldAddr 0 rfl rfl) rfl ?_
        refine DLF_1 (i := 7) (by kernel_rfl) ?_
        refine DLS_n rfl (Ef_store1 (.slice _ _ _) rfl rfl (⟨(Subs.st inferInstance), ?_⟩))
        refine DLF_nil (by kernel_rfl) ?_
        refine X_block ?_
        refine X_then ?_
        refine T_region ?_
        first
          | refine TL_q (Qt_add rfl rfl (by omega) (by omega)) rfl ?_
          | refine TL_q (Qt_addw rfl rfl) rfl ?_
        refine TL_q (Qt_move (.int .i64 _) rfl) rfl ?_
        refine TL_nil ?_
        apply X_loop
        case ha => exact (by repeat (first | with_reducible exact agree_refl | refine agree_upd rfl ?_ | refine agree_mix rfl ?_ | refine agree_setAll rfl ?_))
        case hI => exact ⟨k + 1, a20, c20, os ++ [⟨x18.a, x18.c, ls[k].l⟩], rowFp (.slice x18.a ls[k].l.length x18.c) ++ fp, rfl, rfl, by omega, by rw [List.map_append, hos, take_get _ _ (by simpa using hk)]; simp, by simp [hol]⟩
        case hm => exact by show ls.length - (k + 1 : Int).toNat < ls.length - (k : Int).toNat; omega
        case hH => exact fun w hw => eachUnder (Subs.st inferInstance w hw : St w0 (row (.slice a20 (os ++ [(⟨x18.a, x18.c, ls[k].l⟩ : BS)]).length c20) 22 1 ((os ++ [(⟨x18.a, x18.c, ls[k].l⟩ : BS)]).map BS.val) :: row (BS.val ⟨x18.a, x18.c, ls[k].l⟩) 5 1 (bytesV (BS.l ⟨x18.a, x18.c, ls[k].l⟩)) :: eachA fp os :: blk b5 (.cells (KeysV.mk ⟨a20, c20, os ++ [⟨x18.a, x18.c, ls[k].l⟩]⟩ ⟨none, 0, 0⟩).cells 59 (0, 0)) :: blk b2 (.cells (KeysV.mk ⟨sa, sc, ls⟩ ⟨none, 0, 0⟩).cells 59 (0, 0)) :: blk b3 (.cells (ViewV.mk num (mk : Int)).cells 32 (0, 0)) :: H) w)
  ·
    have p12 := h12
    try simp only [decide_eq_true_eq, decide_eq_false_iff_not, Bool.not_eq_true', Bool.not_eq_false', Option.isNone_iff_eq_none, ne_eq, Decidable.not_not, Int.not_lt, Int.not_le] at p12
    have hos : os.map BS.l = ls.map BS.l := by rw [hos]; exact List.take_of_length_le (by simp; omega)
    refine T_exit ?_
    refine X_then_exit ?_
    refine X_loop_exit ?_
    refine X_block_exit ?_
    refine X_then ?_
    refine T_seq ?_
    refine T_region ?_
    refine TL_q (Qt_loadN rfl rfl) rfl ?_
    refine TL_q (Qt_loadN rfl rfl) rfl ?_
    refine TL_e rfl (Ef_makeMap encI encI (fun r25 => ?_))
    refine TL_q (Qt_build [(0, (.agg _)), (1, (.agg _)), (2, (.map _))] rfl (by kernel_rfl)) rfl ?_
    refine TL_e rfl (Ef_boxN rfl (fun b27 => ?_))
    refine TL_q (Qt_assign (.pointer _) rfl) rfl ?_
    refine TL_nil ?_
    refine X_then ?_
    refine T_ret ?_
    exact X_ret b27 [_] Tryz.results90 ⟨rfl, trivial⟩ rfl (Subs.st inferInstance)
set_option maxHeartbeats 1000000 in
theorem instNew_c {w0 : World} {H : List SA} {num slot : Int} {mk : Nat} {sa : Option Addr} {sc : Nat} {ls : List BS} [rk : RdC w0 H (.slice sa ls.length sc) 1 (ls.map BS.val)] [rke : RdE w0 H ls] (hkl : ∀ x ∈ ls, x.l.length ≤ 4294967000) (hn : ls.length ≤ 1000) :
    CT Tryz.prog w0 (H) 91 [.agg (KeysV.mk ⟨sa, sc, ls⟩ ⟨none, 0, 0⟩).cells, .agg (ViewV.mk num (mk : Int)).cells, .int .i64 slot] (α := Nat) (fun y => .pointer (some ⟨y, 0, none⟩)) (fun _ => H) := by
  refine CT_intro Tryz.func91 rfl Tryz.ntmps91 rfl ?_
  refine T_seq ?_
  refine T_region ?_
  refine TL_e rfl (Ef_boxN rfl (fun b3 => ?_))
  refine TL_e rfl (Ef_boxN rfl (fun b4 => ?_))
  refine TL_q (Qt_assign (.pointer _) rfl) rfl ?_
  refine TL_nil ?_
  refine X_then ?_
  refine T_seq ?_
  refine T_region ?_
  refine TL_e rfl (Ef_allocN (fun b7 => ?_))
  refine TL_nil ?_
  refine X_then ?_
  refine T_seq ?_
  refine T_seq ?_
  refine T_region ?_
  refine TL_q (Qt_fieldAddr 0 rfl rfl) rfl ?_
  refine TL_q (Qt_load1 rfl) rfl ?_
  refine TL_q (Qt_len_slice rfl Tryz.underlying46) rfl ?_
  refine TL_q (Qt_move (.int .i64 _) rfl) rfl ?_
  refine TL_nil ?_
  refine X_then ?_
  refine T_block ?_
  refine T_loop [9, 13, 14, 15, 16, 17, 18, 19, 20, 21, 22, 23, 24] [13] (fun us H' => ∃ (k : Nat) (a : Option Addr) (c : Nat) (os : List BS) (fp : List Nat), us = [.int .i64 (k : Int)] ∧ row (.slice a (os).length c) 22 1 ((os).map BS.val) :: eachA fp os :: blk b7 (.cells (KeysV.mk ⟨a, c, os⟩ ⟨none, 0, 0⟩).cells 59 (0, 0)) :: blk b3 (.cells (KeysV.mk ⟨sa, sc, ls⟩ ⟨none, 0, 0⟩).cells 59 (0, 0)) :: blk b4 (.cells (ViewV.mk num (mk : Int)).cells 32 (0, 0)) :: H = H' ∧ k ≤ ls.length ∧ (os.map BS.l = (ls.map BS.l).take k) ∧ (os.length = k)) (fun us => match us with | .int _ i :: _ => ls.length - i.toNat | _ => 0) ⟨0, none, 0, [], [], rfl, rfl, by omega, rfl, rfl⟩ (fun w hw => by
        have h0 : St w0 (blk b7 (.cells (KeysV.mk ⟨none, 0, []⟩ ⟨none, 0, 0⟩).cells 59 (0, 0)) :: blk b3 (.cells (KeysV.mk ⟨sa, sc, ls⟩ ⟨none, 0, 0⟩).cells 59 (0, 0)) :: blk b4 (.cells (ViewV.mk num (mk : Int)).cells 32 (0, 0)) :: H) w := Subs.st inferInstance w hw
        exact (h0.eachNil).addNil 22 1) ?_
  rintro τ0 _ _  ⟨k, a, c, os, fp, rfl, rfl, hk0, hos, hol⟩ _
  refine T_seq ?_
  refine T_region ?_
  refine TL_q (Qt_lss rfl rfl) rfl ?_
  refine TL_nil ?_
  refine X_then ?_
  refine T_seq ?_
  refine T_cond rfl (fun h14 => ?_) (fun h14 => ?_)
  ·
    have p14 := h14
    try simp only [decide_eq_true_eq, decide_eq_false_iff_not, Bool.not_eq_true', Bool.not_eq_false', Option.isNone_iff_eq_none, ne_eq, Decidable.not_not, Int.not_lt, Int.not_le] at p14
    have hk : k < ls.length := by omega
    refine T_skip ?_
    refine X_then ?_
    refine T_seq ?_
    refine T_block ?_
    refine T_seq ?_
    refine T_region ?_
    refine TL_q (Qt_indexR rfl rfl (by omega) (by simp; omega)) rfl ?_
    refine TL_q (Qt_loadR (.slice _ _ _) rfl (vals_get _ _ hk)) rfl ?_
    refine TL_q (Qt_assign (.slice _ _ _) rfl) rfl ?_
    refine TL_nil ?_
    refine X_then ?_
    refine T_drawF H (by kernel_rfl) (Subs.st inferInstance) ?_
    refine DLF_q (i := 0) (by kernel_rfl) rfl (by kernel_rfl) (by kernel_rfl) (Qt_fieldAddr 0 rfl rfl) rfl ?_
    refine DLF_q (i := 2) (by kernel_rfl) rfl (by kernel_rfl) (by kernel_rfl) (Qt_move (.slice _ _ _) rfl) rfl ?_
    refine DLF_2 (i := 1) (j := 3) (by kernel_rfl) ?_ ?_
    ·
      refine DLS_e rfl rfl (Ef_of_Qt (Qt_load1 rfl) ⟨(Subs.st inferInstance), ?_⟩)
      refine DLF_1 (i := 3) (by kernel_rfl) ?_
      have : RdB w0 H (.slice ls[k].a ls[k].l.length ls[k].c) ls[k].l := rke.get (List.getElem_mem hk)
      refine DLS_e rfl rfl (Ef_call (clone_c (by have := hkl _ (List.getElem_mem hk); omega)) rfl (fun x20 => ⟨(Subs.st inferInstance), ?_⟩))
      refine DLF_1 (i := 4) (by kernel_rfl) ?_
      refine DLS_e rfl rfl (Ef_slice1 (v := .slice _ _ _) rfl (fun a21 c21 => ⟨(Subs.st inferInstance), ?_⟩))
      refine DLF_1 (i := 5) (by kernel_rfl) ?_
      refine DLS_e rfl rfl (Ef_appendP (sv := .slice _ _ _) (xv := .slice _ _ _) ⟨x20.a, x20.c, ls[k].l⟩ rfl rfl (by omega) rfl (fun a22 c22 => ⟨(Subs.st inferInstance), ?_⟩))
      refine DLF_q (i := 6) (by kernel_rfl) rfl (by kernel_rfl) (by kernel_rfl) (Qt_fieldAddr 0 rfl rfl) rfl ?_
      refine DLF_1 (i := 7) (by kernel_rfl) ?_
      refine DLS_n rfl (Ef_store1 (.slice _ _ _) rfl rfl (⟨(Subs.st inferInstance), ?_⟩))
      refine DLF_nil (by kernel_rfl) ?_
      refine X_block ?_
      refine X_then ?_
      refine T_region ?_
      first
        | refine TL_q (Qt_add rfl rfl (by omega) (by omega)) rfl ?_
        | refine TL_q (Qt_addw rfl rfl) rfl ?_
      refine TL_q (Qt_move (.int .i64 _) rfl) rfl ?_
      refine TL_nil ?_
      apply X_loop
      case ha => exact (by repeat (first | with_reducible exact agree_refl | refine agree_upd rfl ?_ | refine agree_mix rfl ?_ | refine agree_setAll rfl ?_))
      case hI => exact ⟨k + 1, a22, c22, os ++ [⟨x20.a, x20.c, ls[k].l⟩], rowFp (.slice x20.a ls[k].l.length x20.c) ++ fp, rfl, rfl, by omega, by rw [List.map_append, hos, take_get _ _ (by simpa using hk)]; simp, by simp [hol]⟩
      case hm => exact by show ls.length - (k + 1 : Int).toNat < ls.length - (k : Int).toNat; omega
      case hH => exact fun w hw => eachUnder (Subs.st inferInstance w hw : St w0 (row (.slice a22 (os ++ [(⟨x20.a, x20.c, ls[k].l⟩ : BS)]).length c22) 22 1 ((os ++ [(⟨x20.a, x20.c, ls[k].l⟩ : BS)]).map BS.val) :: row (BS.val ⟨x20.a, x20.c, ls[k].l⟩) 5 1 (bytesV (BS.l ⟨x20.a, x20.c, ls[k].l⟩)) :: eachA fp os :: blk b7 (.cells (KeysV.mk ⟨a22, c22, os ++ [⟨x20.a, x20.c, ls[k].l⟩]⟩ ⟨none, 0, 0⟩).cells 59 (0, 0)) :: blk b3 (.cells (KeysV.mk ⟨sa, sc, ls⟩ ⟨none, 0, 0⟩).cells 59 (0, 0)) :: blk b4 (.cells (ViewV.mk num (mk : Int)).cells 32 (0, 0)) :: H) w)
    ·
      have : RdB w0 H (.slice ls[k].a ls[k].l.length ls[k].c) ls[k].l := rke.get (List.getElem_mem hk)
      refine DLS_e rfl rfl (Ef_call (clone_c (by have := hkl _ (List.getElem_mem hk); omega)) rfl (fun x20 => ⟨(Subs.st inferInstance), ?_⟩))
      refine DLF_2 (i := 1) (j := 4) (by kernel_rfl) ?_ ?_
      ·
        refine DLS_e rfl rfl (Ef_of_Qt (Qt_load1 rfl) ⟨(Subs.st inferInstance), ?_⟩)
        refine DLF_1 (i := 4) (by kernel_rfl) ?_
        refine DLS_e rfl rfl (Ef_slice1 (v := .slice _ _ _) rfl (fun a21 c21 => ⟨(Subs.st inferInstance), ?_⟩))
        refine DLF_1 (i := 5) (by kernel_rfl) ?_
        refine DLS_e rfl rfl (Ef_appendP (sv := .slice _ _ _) (xv := .slice _ _ _) ⟨x20.a, x20.c, ls[k].l⟩ rfl rfl (by omega) rfl (fun a22 c22 => ⟨(Subs.st inferInstance), ?_⟩))
        refine DLF_q (i := 6) (by kernel_rfl) rfl (by kernel_rfl) (by kernel_rfl) (Qt_fieldAddr 0 rfl rfl) rfl ?_
        refine DLF_1 (i := 7) (by kernel_rfl) ?_
        refine DLS_n rfl (Ef_store1 (.slice _ _ _) rfl rfl (⟨(Subs.st inferInstance), ?_⟩))
        refine DLF_nil (by kernel_rfl) ?_
        refine X_block ?_
        refine X_then ?_
        refine T_region ?_
        first
          | refine TL_q (Qt_add rfl rfl (by omega) (by omega)) rfl ?_
          | refine TL_q (Qt_addw rfl rfl) rfl ?_
        refine TL_q (Qt_move (.int .i64 _) rfl) rfl ?_
        refine TL_nil ?_
        apply X_loop
        case ha => exact (by repeat (first | with_reducible exact agree_refl | refine agree_upd rfl ?_ | refine agree_mix rfl ?_ | refine agree_setAll rfl ?_))
        case hI => exact ⟨k + 1, a22, c22, os ++ [⟨x20.a, x20.c, ls[k].l⟩], rowFp (.slice x20.a ls[k].l.length x20.c) ++ fp, rfl, rfl, by omega, by rw [List.map_append, hos, take_get _ _ (by simpa using hk)]; simp, by simp [hol]⟩
        case hm => exact by show ls.length - (k + 1 : Int).toNat < ls.length - (k : Int).toNat; omega
        case hH => exact fun w hw => eachUnder (Subs.st inferInstance w hw : St w0 (row (.slice a22 (os ++ [(⟨x20.a, x20.c, ls[k].l⟩ : BS)]).length c22) 22 1 ((os ++ [(⟨x20.a, x20.c, ls[k].l⟩ : BS)]).map BS.val) :: row (BS.val ⟨x20.a, x20.c, ls[k].l⟩) 5 1 (bytesV (BS.l ⟨x20.a, x20.c, ls[k].l⟩)) :: eachA fp os :: blk b7 (.cells (KeysV.mk ⟨a22, c22, os ++ [⟨x20.a, x20.c, ls[k].l⟩]⟩ ⟨none, 0, 0⟩).cells 59 (0, 0)) :: blk b3 (.cells (KeysV.mk ⟨sa, sc, ls⟩ ⟨none, 0, 0⟩).cells 59 (0, 0)) :: blk b4 (.cells (ViewV.mk num (mk : Int)).cells 32 (0, 0)) :: H) w)
      ·
        refine DLS_e rfl rfl (Ef_slice1 (v := .slice _ _ _) rfl (fun a21 c21 => ⟨(Subs.st inferInstance), ?_⟩))
        refine DLF_1 (i := 1) (by kernel_rfl) ?_
        refine DLS_e rfl rfl (Ef_of_Qt (Qt_load1 rfl) ⟨(Subs.st inferInstance), ?_⟩)
        refine DLF_1 (i := 5) (by kernel_rfl) ?_
        refine DLS_e rfl rfl (Ef_appendP (sv := .slice _ _ _) (xv := .slice _ _ _) ⟨x20.a, x20.c, ls[k].l⟩ rfl rfl (by omega) rfl (fun a22 c22 => ⟨(Subs.st inferInstance), ?_⟩))
        refine DLF_q (i := 6) (by kernel_rfl) rfl (by kernel_rfl) (by kernel_rfl) (Qt_fieldAddr 0 rfl rfl) rfl ?_
        refine DLF_1 (i := 7) (by kernel_rfl) ?_
        refine DLS_n rfl (Ef_store1 (.slice _ _ _) rfl rfl (⟨(Subs.st inferInstance), ?_⟩))
        refine DLF_nil (by kernel_rfl) ?_
        refine X_block ?_
        refine X_then ?_
        refine T_region ?_
        first
          | refine TL_q (Qt_add rfl rfl (by omega) (by omega)) rfl ?_
          | refine TL_q (Qt_addw rfl rfl) rfl ?_
        refine TL_q (Qt_move (.int .i64 _) rfl) rfl ?_
        refine TL_nil ?_
        apply X_loop
        case ha => exact (by repeat (first | with_reducible exact agree_refl | refine agree_upd rfl ?_ | refine agree_mix rfl ?_ | refine agree_setAll rfl ?_))
        case hI => exact ⟨k + 1, a22, c22, os ++ [⟨x20.a, x20.c, ls[k].l⟩], rowFp (.slice x20.a ls[k].l.length x20.c) ++ fp, rfl, rfl, by omega, by rw [List.map_append, hos, take_get _ _ (by simpa using hk)]; simp, by simp [hol]⟩
        case hm => exact by show ls.length - (k + 1 : Int).toNat < ls.length - (k : Int).toNat; omega
        case hH => exact fun w hw => eachUnder (Subs.st inferInstance w hw : St w0 (row (.slice a22 (os ++ [(⟨x20.a, x20.c, ls[k].l⟩ : BS)]).length c22) 22 1 ((os ++ [(⟨x20.a, x20.c, ls[k].l⟩ : BS)]).map BS.val) :: row (BS.val ⟨x20.a, x20.c, ls[k].l⟩) 5 1 (bytesV (BS.l ⟨x20.a, x20.c, ls[k].l⟩)) :: eachA fp os :: blk b7 (.cells (KeysV.mk ⟨a22, c22, os ++ [⟨x20.a, x20.c, ls[k].l⟩]⟩ ⟨none, 0, 0⟩).cells 59 (0, 0)) :: blk b3 (.cells (KeysV.mk ⟨sa, sc, ls⟩ ⟨none, 0, 0⟩).cells 59 (0, 0)) :: blk b4 (.cells (ViewV.mk num (mk : Int)).cells 32 (0, 0)) :: H) w)
  ·
    have p14 := h14
    try simp only [decide_eq_true_eq, decide_eq_false_iff_not, Bool.not_eq_true', Bool.not_eq_false', Option.isNone_iff_eq_none, ne_eq, Decidable.not_not, Int.not_lt, Int.not_le] at p14
    have hos : os.map BS.l = ls.map BS.l := by rw [hos]; exact List.take_of_length_le (by simp; omega)
    refine T_exit ?_
    refine X_then_exit ?_
    refine X_loop_exit ?_
    refine X_block_exit ?_
    refine X_then ?_
    refine T_seq ?_
    refine T_region ?_
    refine TL_q (Qt_fieldAddr 1 rfl rfl) rfl ?_
    refine TL_q (Qt_load1 rfl) rfl ?_
    refine TL_e rfl (Ef_call (cloneHnil_c) rfl (fun x27 => ?_))
    refine TL_q (Qt_fieldAddr 1 rfl rfl) rfl ?_
    refine TL_n (Ef_store1 (.slice _ _ _) rfl rfl (?_))
    refine TL_nil ?_
    refine X_then ?_
    refine T_seq ?_
    refine T_region ?_
    refine TL_q (Qt_loadN rfl rfl) rfl ?_
    refine TL_q (Qt_loadN rfl rfl) rfl ?_
    refine TL_q (Qt_move (.int .i64 _) rfl) rfl ?_
    refine TL_e rfl (Ef_makeMap encI encI (fun r32 => ?_))
    refine TL_e rfl (Ef_makeMap encI encI (fun r33 => ?_))
    refine TL_e rfl (Ef_makeMap encI encI (fun r34 => ?_))
    refine TL_q (Qt_build [(0, (.agg _)), (1, (.agg _)), (2, (.int .i64 _)), (3, (.map _)), (4, (.map _)), (5, (.map _))] rfl (by kernel_rfl)) rfl ?_
    refine TL_e rfl (Ef_boxN rfl (fun b36 => ?_))
    refine TL_q (Qt_assign (.pointer _) rfl) rfl ?_
    refine TL_nil ?_
    refine X_then ?_
    refine T_ret ?_
    exact X_ret b36 [_] Tryz.results91 ⟨rfl, trivial⟩ rfl (Subs.st inferInstance)
set_option maxHeartbeats 1000000 in
theorem clonedX_c {w0 : World} {H : List SA} {sa : Option Addr} {sc : Nat} {ls : List BS} [rk : RdC w0 H (.slice sa ls.length sc) 1 (ls.map BS.val)] [rke : RdE w0 H ls] (hkl : ∀ x ∈ ls, x.l.length ≤ 4294967000) (hn : ls.length ≤ 1000) :
    CT Tryz.prog w0 (H) 168 [.slice sa ls.length sc] (α := PS) (fun y => .slice y.a y.ls.length y.c) (fun _ => H) := by
  refine CT_intro Tryz.func168 rfl Tryz.ntmps168 rfl ?_
  refine T_seq ?_
  refine T_region ?_
  refine TL_q (Qt_assign (.slice _ _ _) rfl) rfl ?_
  refine TL_nil ?_
  refine X_then ?_
  refine T_seq ?_
  refine T_region ?_
  refine TL_q (Qt_assign (.slice _ _ _) rfl) rfl ?_
  refine TL_nil ?_
  refine X_then ?_
  refine T_seq ?_
  refine T_seq ?_
  refine T_region ?_
  refine TL_q (Qt_move (.slice _ _ _) rfl) rfl ?_
  refine TL_q (Qt_len_slice rfl Tryz.underlying46) rfl ?_
  refine TL_q (Qt_move (.int .i64 _) rfl) rfl ?_
  refine TL_nil ?_
  refine X_then ?_
  refine T_block ?_
  refine T_loop [3, 5, 8, 9, 10, 11, 12, 13, 14, 15, 16, 17] [8, 3] (fun us H' => ∃ (k : Nat) (a : Option Addr) (c : Nat) (os : List BS) (fp : List Nat), us = [.int .i64 (k : Int), .slice a os.length c] ∧ row (.slice a (os).length c) 22 1 ((os).map BS.val) :: eachA fp os :: H = H' ∧ k ≤ ls.length ∧ (os.map BS.l = (ls.map BS.l).take k) ∧ (os.length = k)) (fun us => match us with | .int _ i :: _ => ls.length - i.toNat | _ => 0) ⟨0, none, 0, [], [], rfl, rfl, by omega, rfl, rfl⟩ (fun w hw => by
        have h0 : St w0 (H) w := Subs.st inferInstance w hw
        exact (h0.eachNil).addNil 22 1) ?_
  rintro τ0 _ _  ⟨k, a, c, os, fp, rfl, rfl, hk0, hos, hol⟩ _
  refine T_seq ?_
  refine T_region ?_
  refine TL_q (Qt_lss rfl rfl) rfl ?_
  refine TL_nil ?_
  refine X_then ?_
  refine T_seq ?_
  refine T_cond rfl (fun h9 => ?_) (fun h9 => ?_)
  ·
    have p9 := h9
    try simp only [decide_eq_true_eq, decide_eq_false_iff_not, Bool.not_eq_true', Bool.not_eq_false', Option.isNone_iff_eq_none, ne_eq, Decidable.not_not, Int.not_lt, Int.not_le] at p9
    have hk : k < ls.length := by omega
    refine T_skip ?_
    refine X_then ?_
    refine T_seq ?_
    refine T_block ?_
    refine T_seq ?_
    refine T_region ?_
    refine TL_q (Qt_indexR rfl rfl (by omega) (by simp; omega)) rfl ?_
    refine TL_q (Qt_loadR (.slice _ _ _) rfl (vals_get _ _ hk)) rfl ?_
    refine TL_q (Qt_assign (.slice _ _ _) rfl) rfl ?_
    refine TL_nil ?_
    refine X_then ?_
    refine T_region ?_
    refine TL_q (Qt_move (.slice _ _ _) rfl) rfl ?_
    refine TL_q (Qt_move (.slice _ _ _) rfl) rfl ?_
    have : RdB w0 H (.slice ls[k].a ls[k].l.length ls[k].c) ls[k].l := rke.get (List.getElem_mem hk)
    refine TL_e rfl (Ef_call (clone_c (by have := hkl _ (List.getElem_mem hk); omega)) rfl (fun x14 => ?_))
    refine TL_e rfl (Ef_slice1 (v := .slice _ _ _) rfl (fun a15 c15 => ?_))
    refine TL_e rfl (Ef_appendP (sv := .slice _ _ _) (xv := .slice _ _ _) ⟨x14.a, x14.c, ls[k].l⟩ rfl rfl (by omega) rfl (fun a16 c16 => ?_))
    refine TL_q (Qt_assign (.slice _ _ _) rfl) rfl ?_
    refine TL_nil ?_
    refine X_block ?_
    refine X_then ?_
    refine T_region ?_
    first
      | refine TL_q (Qt_add rfl rfl (by omega) (by omega)) rfl ?_
      | refine TL_q (Qt_addw rfl rfl) rfl ?_
    refine TL_q (Qt_move (.int .i64 _) rfl) rfl ?_
    refine TL_nil ?_
    apply X_loop
    case ha => exact (by repeat (first | with_reducible exact agree_refl | refine agree_upd rfl ?_ | refine agree_mix rfl ?_ | refine agree_setAll rfl ?_))
    case hI => exact ⟨k + 1, a16, c16, os ++ [⟨x14.a, x14.c, ls[k].l⟩], rowFp (.slice x14.a ls[k].l.length x14.c) ++ fp, rfl, rfl, by omega, by rw [List.map_append, hos, take_get _ _ (by simpa using hk)]; simp, by simp [hol]⟩
    case hm => exact by show ls.length - (k + 1 : Int).toNat < ls.length - (k : Int).toNat; omega
    case hH => exact fun w hw => eachUnder (Subs.st inferInstance w hw : St w0 (row (.slice a16 (os ++ [(⟨x14.a, x14.c, ls[k].l⟩ : BS)]).length c16) 22 1 ((os ++ [(⟨x14.a, x14.c, ls[k].l⟩ : BS)]).map BS.val) :: row (BS.val ⟨x14.a, x14.c, ls[k].l⟩) 5 1 (bytesV (BS.l ⟨x14.a, x14.c, ls[k].l⟩)) :: eachA fp os :: H) w)
  ·
    have p9 := h9
    try simp only [decide_eq_true_eq, decide_eq_false_iff_not, Bool.not_eq_true', Bool.not_eq_false', Option.isNone_iff_eq_none, ne_eq, Decidable.not_not, Int.not_lt, Int.not_le] at p9
    have hos : os.map BS.l = ls.map BS.l := by rw [hos]; exact List.take_of_length_le (by simp; omega)
    refine T_exit ?_
    refine X_then_exit ?_
    refine X_loop_exit ?_
    refine X_block_exit ?_
    refine X_then ?_
    refine T_seq ?_
    refine T_region ?_
    refine TL_q (Qt_move (.slice _ _ _) rfl) rfl ?_
    refine TL_q (Qt_assign (.slice _ _ _) rfl) rfl ?_
    refine TL_nil ?_
    refine X_then ?_
    refine T_ret ?_
    exact X_ret ⟨a, c, os⟩ [_] Tryz.results168 ⟨rfl, trivial⟩ rfl (Subs.st inferInstance)
set_option maxHeartbeats 1000000 in
theorem xferNew_c {w0 : World} {H : List SA} {num had : Int} {mk : Nat} {sa : Option Addr} {sc : Nat} {ls : List BS} [rk : RdC w0 H (.slice sa ls.length sc) 1 (ls.map BS.val)] [rke : RdE w0 H ls] (hkl : ∀ x ∈ ls, x.l.length ≤ 4294967000) (hn : ls.length ≤ 1000) :
    CT Tryz.prog w0 (H) 92 [.agg (KeysV.mk ⟨sa, sc, ls⟩ ⟨none, 0, 0⟩).cells, .agg (ViewV.mk num (mk : Int)).cells, .int .i64 had] (α := Nat) (fun y => .pointer (some ⟨y, 0, none⟩)) (fun _ => H) := by
  refine CT_intro Tryz.func92 rfl Tryz.ntmps92 rfl ?_
  refine T_seq ?_
  refine T_region ?_
  refine TL_e rfl (Ef_boxN rfl (fun b3 => ?_))
  refine TL_e rfl (Ef_boxN rfl (fun b4 => ?_))
  refine TL_q (Qt_assign (.pointer _) rfl) rfl ?_
  refine TL_nil ?_
  refine X_then ?_
  refine T_seq ?_
  refine T_drawF (blk b3 (.cells (KeysV.mk ⟨sa, sc, ls⟩ ⟨none, 0, 0⟩).cells 59 (0, 0)) :: H) (by kernel_rfl) (Subs.st inferInstance) ?_
  refine DLF_q (i := 0) (by kernel_rfl) rfl (by kernel_rfl) (by kernel_rfl) (Qt_fieldAddr 0 rfl rfl) rfl ?_
  refine DLF_q (i := 1) (by kernel_rfl) rfl (by kernel_rfl) (by kernel_rfl) (Qt_load1 rfl) rfl ?_
  refine DLF_q (i := 3) (by kernel_rfl) rfl (by kernel_rfl) (by kernel_rfl) (Qt_fieldAddr 1 rfl rfl) rfl ?_
  refine DLF_q (i := 4) (by kernel_rfl) rfl (by kernel_rfl) (by kernel_rfl) (Qt_load1 rfl) rfl ?_
  refine DLF_2 (i := 2) (j := 7) (by kernel_rfl) ?_ ?_
  ·
    refine DLS_e rfl rfl (Ef_call (clonedX_c (ls := ls) hkl hn) rfl (fun x10 => ⟨(Subs.st inferInstance), ?_⟩))
    refine DLF_2 (i := 5) (j := 7) (by kernel_rfl) ?_ ?_
    ·
      refine DLS_e rfl rfl (Ef_call (cloneHnil_c) rfl (fun x13 => ⟨(Subs.st inferInstance), ?_⟩))
      refine DLF_q (i := 6) (by kernel_rfl) rfl (by kernel_rfl) (by kernel_rfl) (Qt_build [(0, .slice _ _ _), (1, .slice _ _ _)] rfl (by kernel_rfl)) rfl ?_
      refine DLF_1 (i := 7) (by kernel_rfl) ?_
      refine DLS_e rfl rfl (Ef_allocN (fun b7 => ⟨(Subs.st inferInstance), ?_⟩))
      refine DLF_1 (i := 8) (by kernel_rfl) ?_
      refine DLS_n rfl (Ef_storeN rfl rfl (⟨(Subs.st inferInstance), ?_⟩))
      refine DLF_nil (by kernel_rfl) ?_
      refine X_then ?_
      refine T_seq ?_
      refine T_region ?_
      refine TL_q (Qt_loadN rfl rfl) rfl ?_
      refine TL_q (Qt_loadN rfl rfl) rfl ?_
      refine TL_q (Qt_move (.int .i64 _) rfl) rfl ?_
      refine TL_e rfl (Ef_makeMap encI encI (fun r18 => ?_))
      refine TL_e rfl (Ef_makeMap encI encI (fun r19 => ?_))
      refine TL_q (Qt_build [(0, (.agg _)), (1, (.agg _)), (2, (.int .i64 _)), (3, (.map _)), (4, (.map _))] rfl (by kernel_rfl)) rfl ?_
      refine TL_e rfl (Ef_boxN rfl (fun b21 => ?_))
      refine TL_q (Qt_assign (.pointer _) rfl) rfl ?_
      refine TL_nil ?_
      refine X_then ?_
      refine T_ret ?_
      exact X_ret b21 [_] Tryz.results92 ⟨rfl, trivial⟩ rfl (Subs.st inferInstance)
    ·
      refine DLS_e rfl rfl (Ef_allocN (fun b7 => ⟨(Subs.st inferInstance), ?_⟩))
      refine DLF_1 (i := 5) (by kernel_rfl) ?_
      refine DLS_e rfl rfl (Ef_call (cloneHnil_c) rfl (fun x13 => ⟨(Subs.st inferInstance), ?_⟩))
      refine DLF_q (i := 6) (by kernel_rfl) rfl (by kernel_rfl) (by kernel_rfl) (Qt_build [(0, .slice _ _ _), (1, .slice _ _ _)] rfl (by kernel_rfl)) rfl ?_
      refine DLF_1 (i := 8) (by kernel_rfl) ?_
      refine DLS_n rfl (Ef_storeN rfl rfl (⟨(Subs.st inferInstance), ?_⟩))
      refine DLF_nil (by kernel_rfl) ?_
      refine X_then ?_
      refine T_seq ?_
      refine T_region ?_
      refine TL_q (Qt_loadN rfl rfl) rfl ?_
      refine TL_q (Qt_loadN rfl rfl) rfl ?_
      refine TL_q (Qt_move (.int .i64 _) rfl) rfl ?_
      refine TL_e rfl (Ef_makeMap encI encI (fun r18 => ?_))
      refine TL_e rfl (Ef_makeMap encI encI (fun r19 => ?_))
      refine TL_q (Qt_build [(0, (.agg _)), (1, (.agg _)), (2, (.int .i64 _)), (3, (.map _)), (4, (.map _))] rfl (by kernel_rfl)) rfl ?_
      refine TL_e rfl (Ef_boxN rfl (fun b21 => ?_))
      refine TL_q (Qt_assign (.pointer _) rfl) rfl ?_
      refine TL_nil ?_
      refine X_then ?_
      refine T_ret ?_
      exact X_ret b21 [_] Tryz.results92 ⟨rfl, trivial⟩ rfl (Subs.st inferInstance)
  ·
    refine DLS_e rfl rfl (Ef_allocN (fun b7 => ⟨(Subs.st inferInstance), ?_⟩))
    refine DLF_1 (i := 2) (by kernel_rfl) ?_
    refine DLS_e rfl rfl (Ef_call (clonedX_c (ls := ls) hkl hn) rfl (fun x10 => ⟨(Subs.st inferInstance), ?_⟩))
    refine DLF_1 (i := 5) (by kernel_rfl) ?_
    refine DLS_e rfl rfl (Ef_call (cloneHnil_c) rfl (fun x13 => ⟨(Subs.st inferInstance), ?_⟩))
    refine DLF_q (i := 6) (by kernel_rfl) rfl (by kernel_rfl) (by kernel_rfl) (Qt_build [(0, .slice _ _ _), (1, .slice _ _ _)] rfl (by kernel_rfl)) rfl ?_
    refine DLF_1 (i := 8) (by kernel_rfl) ?_
    refine DLS_n rfl (Ef_storeN rfl rfl (⟨(Subs.st inferInstance), ?_⟩))
    refine DLF_nil (by kernel_rfl) ?_
    refine X_then ?_
    refine T_seq ?_
    refine T_region ?_
    refine TL_q (Qt_loadN rfl rfl) rfl ?_
    refine TL_q (Qt_loadN rfl rfl) rfl ?_
    refine TL_q (Qt_move (.int .i64 _) rfl) rfl ?_
    refine TL_e rfl (Ef_makeMap encI encI (fun r18 => ?_))
    refine TL_e rfl (Ef_makeMap encI encI (fun r19 => ?_))
    refine TL_q (Qt_build [(0, (.agg _)), (1, (.agg _)), (2, (.int .i64 _)), (3, (.map _)), (4, (.map _))] rfl (by kernel_rfl)) rfl ?_
    refine TL_e rfl (Ef_boxN rfl (fun b21 => ?_))
    refine TL_q (Qt_assign (.pointer _) rfl) rfl ?_
    refine TL_nil ?_
    refine X_then ?_
    refine T_ret ?_
    exact X_ret b21 [_] Tryz.results92 ⟨rfl, trivial⟩ rfl (Subs.st inferInstance)
set_option maxHeartbeats 1000000 in
theorem config_c {w0 : World} {H : List SA}  :
    CT Tryz.prog w0 (H) 14 [.agg (AskR.mk 0 (ViewV.mk 0 15) ⟨none, 0, 0⟩).cells] (α := (PS × List Nat)) (fun y => .agg (ConfigV.mk 0 (KeysV.mk ⟨y.1.a, y.1.c, y.1.ls⟩ ⟨none, 0, 0⟩) (ViewV.mk 0 15) 2 8 3).cells) (fun y => pu (y.1.ls.map BS.l = keyT 16) :: dat y.2 (Deep.leads (PS.mk y.1.a y.1.c y.1.ls)) :: H) := by
  refine CT_intro Tryz.func14 rfl Tryz.ntmps14 rfl ?_
  refine T_seq ?_
  refine T_region ?_
  refine TL_e rfl (Ef_boxN rfl (fun b1 => ?_))
  refine TL_e rfl (Ef_allocN (fun b2 => ?_))
  refine TL_nil ?_
  refine X_then ?_
  refine T_seq ?_
  refine T_region ?_
  refine TL_q (Qt_fieldAddr 3 rfl rfl) rfl ?_
  refine TL_q (Qt_load1 rfl) rfl ?_
  refine TL_q (Qt_build [(1, .slice _ _ _)] rfl (by kernel_rfl)) rfl ?_
  refine TL_e rfl (Ef_allocN (fun b3 => ?_))
  refine TL_n (Ef_storeN rfl rfl (?_))
  refine TL_nil ?_
  refine X_then ?_
  refine T_seq ?_
  refine T_seq ?_
  refine T_region ?_
  refine TL_q (Qt_move (.int .i64 _) rfl) rfl ?_
  refine TL_nil ?_
  refine X_then ?_
  refine T_block ?_
  refine T_loop [4, 8, 9, 10, 11, 12, 13, 14, 15, 16, 17, 18, 19] [8] (fun us H' => ∃ (k : Nat) (a : Option Addr) (c : Nat) (ls : List BS) (fp : List Nat), us = [.int .i64 (k : Int)] ∧ row (.slice a (ls).length c) 22 1 ((ls).map BS.val) :: eachA fp ls :: blk b3 (.cells (KeysV.mk ⟨a, c, ls⟩ ⟨none, 0, 0⟩).cells 59 (0, 0)) :: blk b1 (.cells (AskR.mk 0 (ViewV.mk 0 15) ⟨none, 0, 0⟩).cells 54 (0, 0)) :: blk b2 (.cells ConfigV.zero.cells 61 (0, 0)) :: H = H' ∧ k ≤ 16 ∧ (ls.map BS.l = keyT k) ∧ (ls.length = k)) (fun us => match us with | .int _ i :: _ => 16 - i.toNat | _ => 0) ⟨0, none, 0, [], [], rfl, rfl, by omega, rfl, rfl⟩ (fun w hw => by
        have h0 : St w0 (blk b3 (.cells (KeysV.mk ⟨none, 0, []⟩ ⟨none, 0, 0⟩).cells 59 (0, 0)) :: blk b1 (.cells (AskR.mk 0 (ViewV.mk 0 15) ⟨none, 0, 0⟩).cells 54 (0, 0)) :: blk b2 (.cells ConfigV.zero.cells 61 (0, 0)) :: H) w := Subs.st inferInstance w hw
        exact (h0.eachNil).addNil 22 1) ?_
  rintro τ0 _ _  ⟨k, a, c, ls, fp, rfl, rfl, hk0, hls, hll⟩ _
  refine T_seq ?_
  refine T_region ?_
  refine TL_q (Qt_lss rfl rfl) rfl ?_
  refine TL_nil ?_
  refine X_then ?_
  refine T_seq ?_
  refine T_cond rfl (fun h9 => ?_) (fun h9 => ?_)
  ·
    have p9 := h9
    try simp only [decide_eq_true_eq, decide_eq_false_iff_not, Bool.not_eq_true', Bool.not_eq_false', Option.isNone_iff_eq_none, ne_eq, Decidable.not_not, Int.not_lt, Int.not_le] at p9
    refine T_skip ?_
    refine X_then ?_
    refine T_seq ?_
    refine T_block ?_
    refine T_seq ?_
    refine T_region ?_
    refine TL_q (Qt_move (.int .i64 _) rfl) rfl ?_
    refine TL_q (Qt_assign (.int .i64 _) rfl) rfl ?_
    refine TL_nil ?_
    refine X_then ?_
    refine T_region ?_
    refine TL_q (Qt_fieldAddr 0 rfl rfl) rfl ?_
    refine TL_q (Qt_load1 rfl) rfl ?_
    refine TL_q (Qt_move (.int .i64 _) rfl) rfl ?_
    refine TL_q (Qt_conv rfl rfl Tryz.underlying5) rfl ?_
    rw [wrap_nat .u8 rfl (by show _ < 2 ^ 8; omega)]
    obtain ⟨u, hu⟩ : ∃ u : UInt8, u = UInt8.ofNat k := ⟨_, rfl⟩
    have hun : (k : Int) = (u.toNat : Int) := by rw [hu]; simp; omega
    refine TL_e rfl (Ef_sliceN (m := ([u] : List UInt8).length) [.int .u8 (k : Int)] (bytesV [u]) rfl rfl rfl (by rw [hun]; rfl) (by simp [Value.cells]) rfl rfl (fun a15 c15 => ?_))
    refine TL_e rfl (Ef_slice1 (v := .slice _ _ _) rfl (fun a16 c16 => ?_))
    refine TL_e rfl (Ef_appendP (sv := .slice _ _ _) (xv := .slice _ _ _) ⟨a15, c15, [u]⟩ rfl rfl (by omega) rfl (fun a17 c17 => ?_))
    refine TL_q (Qt_fieldAddr 0 rfl rfl) rfl ?_
    refine TL_n (Ef_store1 (.slice _ _ _) rfl rfl (?_))
    refine TL_nil ?_
    refine X_block ?_
    refine X_then ?_
    refine T_region ?_
    first
      | refine TL_q (Qt_add rfl rfl (by omega) (by omega)) rfl ?_
      | refine TL_q (Qt_addw rfl rfl) rfl ?_
    refine TL_q (Qt_move (.int .i64 _) rfl) rfl ?_
    refine TL_nil ?_
    apply X_loop
    case ha => exact (by repeat (first | with_reducible exact agree_refl | refine agree_upd rfl ?_ | refine agree_mix rfl ?_ | refine agree_setAll rfl ?_))
    case hI => exact ⟨k + 1, a17, c17, ls ++ [⟨a15, c15, [u]⟩], rowFp (.slice a15 ([u] : List UInt8).length c15) ++ fp, rfl, rfl, by omega, by rw [List.map_append, hls, keyT_succ, ← hu]; rfl, by simp [hll]⟩
    case hm => exact by show 16 - (k + 1 : Int).toNat < 16 - (k : Int).toNat; omega
    case hH => exact fun w hw => eachUnder (Subs.st inferInstance w hw : St w0 (row (.slice a17 (ls ++ [(⟨a15, c15, [u]⟩ : BS)]).length c17) 22 1 ((ls ++ [(⟨a15, c15, [u]⟩ : BS)]).map BS.val) :: row (BS.val ⟨a15, c15, [u]⟩) 5 1 (bytesV (BS.l ⟨a15, c15, [u]⟩)) :: eachA fp ls :: blk b3 (.cells (KeysV.mk ⟨a17, c17, ls ++ [⟨a15, c15, [u]⟩]⟩ ⟨none, 0, 0⟩).cells 59 (0, 0)) :: blk b1 (.cells (AskR.mk 0 (ViewV.mk 0 15) ⟨none, 0, 0⟩).cells 54 (0, 0)) :: blk b2 (.cells ConfigV.zero.cells 61 (0, 0)) :: H) w)
  ·
    have p9 := h9
    try simp only [decide_eq_true_eq, decide_eq_false_iff_not, Bool.not_eq_true', Bool.not_eq_false', Option.isNone_iff_eq_none, ne_eq, Decidable.not_not, Int.not_lt, Int.not_le] at p9
    have hk16 : k = 16 := by omega
    refine T_exit ?_
    refine X_then_exit ?_
    refine X_loop_exit ?_
    refine X_block_exit ?_
    refine X_then ?_
    refine T_seq ?_
    refine T_region ?_
    refine TL_q (Qt_fieldAddr 0 rfl rfl) rfl ?_
    refine TL_q (Qt_load1 rfl) rfl ?_
    refine TL_q (Qt_conv rfl rfl Tryz.underlying3) rfl ?_
    refine TL_q (Qt_rem rfl rfl (by omega)) rfl ?_
    rw [show ((IntKind.i64.wrap 0).tmod 16 : Int) = 0 from by decide]
    refine TL_q (Qt_loadN rfl rfl) rfl ?_
    refine TL_q (Qt_fieldAddr 1 rfl rfl) rfl ?_
    refine TL_q (Qt_loadN rfl rfl) rfl ?_
    refine TL_q (Qt_build [(0, (.int .i64 _)), (1, (.agg _)), (2, (.agg _)), (3, (.int .i64 _)), (4, (.int .i64 _)), (5, (.int .i64 _))] rfl (by kernel_rfl)) rfl ?_
    refine TL_n (Ef_storeN rfl rfl (?_))
    refine TL_nil ?_
    refine X_then ?_
    refine T_ret ?_
    refine X_conv (fun w hw => St.datPS (a := a) (c := c) (ls := ls) (fp := fp) (e := 22) (H := blk b2 (.cells (ConfigV.mk 0 (KeysV.mk ⟨a, c, ls⟩ ⟨none, 0, 0⟩) (ViewV.mk 0 15) 2 8 3).cells 61 (0, 0)) :: H) (Subs.st inferInstance w hw)) (fun fp2 => ?_)
    exact X_ret (⟨a, c, ls⟩, fp2) [_] Tryz.results14 ⟨⟨_, rfl, res_cellN rfl⟩, trivial⟩ rfl (fun w hw => (Subs.st inferInstance w hw : St w0 (dat fp2 (Deep.leads (PS.mk a c ls)) :: H) w).addPure (by rw [hls, hk16]))
end Go.Proofs.YtldnfbghjnhklaaGreatDoor
