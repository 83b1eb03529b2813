/- Walks: the references on how many are enough, on what a member tells. -/
import Derived.Test.YtnijomppbgdmnaaGreatSgP
import Derived.Test.YtnijomppbgdmnaaGreatXuRP
import Derived.Test.YtnijomppbgdmnaaGreatRrRP
import Derived.Test.YtnijomppbgdmnaaGreatVaRP
namespace Go.Proofs.YtnijomppbgdmnaaGreat
open Go.RowKit Go.Sx
set_option maxRecDepth 100000
set_option linter.unusedSimpArgs false
set_option linter.unusedVariables false
theorem startN_lt {x : Int} {k : Nat} (h1 : (k : Int) < x) (h2 : (k : Int) ≤ 40) : k < startN x := by unfold startN; split <;> omega
theorem startN_ge {x : Int} {k : Nat} (h : x ≤ (k : Int)) : startN x ≤ k := by unfold startN; split <;> omega
instance rtv_hash {v : RToldV} {u : Vector UInt8 32} : Put v.cells 3 (.agg (hlist u).toArray) { v with b := { v.b with hash := u } }.cells := by
 have := Put.mid ([.int .i64 v.b.last] ++ [.bool v.b.has] ++ [.int .i64 v.b.reg]) (hlist v.b.hash) ([.slice v.b.batch.a v.b.batch.l.length v.b.batch.c] ++ [.int .i64 v.e]) (cs := v.cells) (o := 3) (n := 32) (v := .agg (hlist u).toArray) (by simp [RToldV.cells, RToldV.list, BindV.list]) (by simp) (by simp) (by simp [Value.cells])
 simp only [Value.cells, RToldV.cells, RToldV.list, BindV.list, List.append_assoc, List.nil_append, List.cons_append] at this ⊢
 first | exact this | simpa using this
attribute [local irreducible] sha writD decidD cbE
set_option maxHeartbeats 1000000 in
theorem rEnough_c {w0 : World} {H : List SA} {num : Int} {mk : Nat} (hmk : mk < 65536) :
 CT Tryz.prog w0 (H) 32 [.agg (ViewV.mk num (mk : Int)).cells] (α := Unit) (fun _ => .int .i64 (enoughV num mk : Int)) (fun _ => H) := by
 refine CT_intro Tryz.func32 rfl Tryz.ntmps32 rfl ?_
 refine T2 ?_
 refine ze rfl (Ef_boxN rfl (fun b1 => ?_))
 refine Qai rfl rfl (TX (zS ?_))
 refine T_draw (blk b1 (.cells (ViewV.mk num (mk : Int)).cells 24 (0, 0)) :: H) [(0, true), (2, true), (1, false), (3, false), (4, true), (5, true)] (by kernel_rfl) (by kernel_rfl) rfl (by kernel_rfl) SB (fun hns0 => ?_)
 refine zd hns0 rfl (zn rfl rfl) rfl (zd hns0 rfl (zn rfl rfl) rfl ?_)
 refine DL_e rfl rfl (zc (rSize_c hmk) rfl (fun x4 => ⟨SB, ?_⟩))
 refine DL_e rfl rfl (zc (rFaults_c hmk) rfl (fun x6 => ⟨SB, ?_⟩))
 have hsz := sizeV_le (num := num) hmk
 have hfa : faultsV num mk ≤ sizeV num mk := by unfold faultsV; omega
 refine zd hns0 rfl (Qt_val (Qt_sub rfl rfl (by omega) (by omega)) (congrArg (Value.int .i64) (show (sizeV num mk : Int) - (faultsV num mk : Int) = (enoughV num mk : Int) from by unfold enoughV; omega))) rfl (zd hns0 rfl (za (.int .i64 _) rfl) rfl (DL_nil (zx (zQ ?_))))
 exact zX () [_] Tryz.results32 ⟨rfl, trivial⟩ rfl SB
set_option maxHeartbeats 1000000 in
theorem rValid_c {w0 : World} {H : List SA} {num : Int} {mk : Nat} (hmk : mk < 65536) {sa : Option Addr} {sc : Nat} {ls : List BS} [rk : RdC w0 H (.slice sa ls.length sc) 1 (ls.map BS.val)] [rke : RdE w0 H ls] (hkl : ∀ x ∈ ls, x.l.length ≤ 4294967000) {ra : Option Addr} {rq : Nat} {rs : List (Vector UInt8 32)} [hrr : RdC w0 H (.slice ra rs.length rq) 32 (rs.flatMap hlist)] (hrs : rs.length ≤ 1000) {m : MsgV} [rb : RdB w0 H (.slice m.body.a m.body.l.length m.body.c) m.body.l] [rc : RdC w0 H (.slice m.parts.a m.parts.ls.length m.parts.c) 1 (m.parts.ls.map BS.val)] [re : RdE w0 H m.parts.ls] (hsl : 0 ≤ m.slot ∧ m.slot ≤ 60) (hps : ∀ x ∈ m.parts.ls, x.l.length ≤ 4294960000) (hpn : m.parts.ls.length ≤ 16) (hml : m.body.l.length ≤ 4294960000) {first : Int} (hfi : -1000 ≤ first ∧ first ≤ 1000) :
 CT Tryz.prog w0 (H) 34 [.agg (KeysV.mk ⟨sa, sc, ls⟩ ⟨ra, rs.length, rq⟩).cells, .agg (ViewV.mk num (mk : Int)).cells, .int .i64 first, .agg m.cells] (α := BindV) (fun y => .agg (RToldV.mk y (validD (ls.map BS.l) rs num mk first m.abs).1).cells) (fun y => pu (y.abs = (validD (ls.map BS.l) rs num mk first m.abs).2) :: row (.slice y.batch.a (y.batch.l).length y.batch.c) 5 1 (bytesV (y.batch.l)) :: H) := by
 refine CT_intro Tryz.func34 rfl Tryz.ntmps34 rfl ?_
 refine T2 ?_
 refine ze rfl (Ef_boxN rfl (fun b4 => ?_))
 refine ze rfl (Ef_boxN rfl (fun b5 => ?_))
 refine ze rfl (Ef_boxN rfl (fun b7 => ?_))
 refine ze rfl (Ef_allocN (fun b8 => ?_))
 refine TX (zS (T2 ?_))
 refine zq (zf 0 rfl rfl) rfl (zq (zl rfl) rfl (zq (Qt_neq rfl rfl) rfl (TX (zC rfl (fun h18 => ?_) (fun h18 => ?_)))))
 ·
  have p18 := h18
  try simp only [dp] at p18
  refine T2 (zq (Qt_build [(1, (.int .i64 _))] rfl (by kernel_rfl)) rfl ?_)
  refine zN (zs rfl rfl (?_))
  refine TX (zQ (zr ?_))
  have e : (validD (ls.map BS.l) rs num mk first m.abs) = (15, .zero) := by
   rw [validA, if_pos (by simpa using h18)]
  rw [e]
  exact zX (BindV.zero : BindV) [_] Tryz.results34 ⟨⟨_, rfl, res_cellN rfl⟩, trivial⟩ rfl (fun w hw => ((SB w hw : St w0 H w).addNilB 5).addPure rfl)
 have p18 := h18
 try simp only [dp] at p18
 refine zk (zx (zS (T2 ?_)))
 refine zq (zf 2 rfl rfl) rfl (zq (zl rfl) rfl (zq (zf 0 rfl rfl) rfl (zq (zl rfl) rfl (zq (Qt_neq rfl rfl) rfl (TX ?_)))))
 refine zC rfl (fun h24 => ?_) (fun h24 => ?_)
 ·
  have p24 := h24
  try simp only [dp] at p24
  refine T2 (zq (Qt_build [(1, (.int .i64 _))] rfl (by kernel_rfl)) rfl ?_)
  refine zN (zs rfl rfl (?_))
  refine TX (zQ (zr ?_))
  have e : (validD (ls.map BS.l) rs num mk first m.abs) = (9, .zero) := by
   rw [validA, if_neg (by simpa using h18), if_pos (by simpa using h24)]
  rw [e]
  exact zX (BindV.zero : BindV) [_] Tryz.results34 ⟨⟨_, rfl, res_cellN rfl⟩, trivial⟩ rfl (fun w hw => ((SB w hw : St w0 H w).addNilB 5).addPure rfl)
 have p24 := h24
 try simp only [dp] at p24
 refine zk (zx (zS (T2 ?_)))
 refine zq (zf 4 rfl rfl) rfl (zq (zl rfl) rfl (Qmi rfl rfl (zq (Qt_sub rfl rfl (by omega) (by omega)) rfl (zq (Qt_lss rfl rfl) rfl (TX ?_)))))
 refine zC rfl (fun h30 => ?_) (fun h30 => ?_)
 ·
  have p30 := h30
  try simp only [dp] at p30
  refine T2 (zq (Qt_build [(1, (.int .i64 _))] rfl (by kernel_rfl)) rfl ?_)
  refine zN (zs rfl rfl (?_))
  refine TX (zQ (zr ?_))
  have e : (validD (ls.map BS.l) rs num mk first m.abs) = (8, .zero) := by
   rw [validA, if_neg (by simpa using h18), if_neg (by simpa using h24), if_pos (by show m.slot < first - 1; omega)]
  rw [e]
  exact zX (BindV.zero : BindV) [_] Tryz.results34 ⟨⟨_, rfl, res_cellN rfl⟩, trivial⟩ rfl (fun w hw => ((SB w hw : St w0 H w).addNilB 5).addPure rfl)
 have p30 := h30
 try simp only [dp] at p30
 refine zk (zx (zS (T2 ?_)))
 refine zq (zf 38 rfl rfl) rfl (zq (zl rfl) rfl (zq (zL rfl Tryz.underlying28) rfl (zq (Qt_gtr rfl rfl) rfl (TX (zC rfl (fun h35 => ?_) (fun h35 => ?_))))))
 ·
  have p35 := h35
  try simp only [dp] at p35
  exact absurd h35 (by simp; omega)
 have p35 := h35
 try simp only [dp] at p35
 refine zk (zx ?_)
 refine T_cut [9, 10, 37, 38, 39, 40, 41, 42, 43, 44, 45, 46, 47, 48, 49, 50, 51, 52, 53, 54, 55, 56] [] (fun us H' => us = [] ∧ blk b4 (.cells (KeysV.mk ⟨sa, sc, ls⟩ ⟨ra, rs.length, rq⟩).cells 40 (0, 0)) :: blk b5 (.cells (ViewV.mk num (mk : Int)).cells 24 (0, 0)) :: blk b7 (.cells m.cells 82 (0, 0)) :: blk b8 (.cells (RToldV.mk BindV.zero 0).cells 101 (0, 0)) :: H = H' ∧ ¬ (first ≤ m.slot ∧ (decidD (ls.map BS.l) num mk m.slot m.hash (m.parts.ls.map BS.l)).2 ≠ 0)) ?_ ?_
 ·
  refine T2 (zq (zf 4 rfl rfl) rfl (zq (zl rfl) rfl (Qmi rfl rfl (zq (Qt_geq rfl rfl) rfl (TX ?_)))))
  refine zC rfl (fun h40 => ?_) (fun h40 => ?_)
  ·
   have p40 := h40
   try simp only [dp] at p40
   refine T2 (zq (zn rfl rfl) rfl (zq (zn rfl rfl) rfl (zq (zf 4 rfl rfl) rfl (zq (zl rfl) rfl (zq (zf 5 rfl rfl) rfl ?_)))))
   refine zq (zn rfl rfl) rfl (zq (zf 38 rfl rfl) rfl (zq (zl rfl) rfl ?_))
   refine ze rfl (zc (rDecided_c (num := num) hmk (sa := sa) (sc := sc) (ls := ls) (rt := ⟨ra, rs.length, rq⟩) (ps := m.parts.ls) hkl hps (by omega) (slot := m.slot) (h := m.hash)) rfl (fun x50 => ?_))
   refine zq (zm (.tuple _) rfl) rfl (zq (Qt_extract rfl) rfl (zq (Qt_extract rfl) rfl (Qai rfl rfl (Qai rfl rfl (T4 ?_)))))
   refine Qmi rfl rfl (zq (Qt_neq rfl rfl) rfl (TX (zC rfl (fun h54 => ?_) (fun h54 => ?_))))
   ·
    have p54 := h54
    try simp only [dp] at p54
    refine T2 (Qmi rfl rfl (zq (Qt_build [(1, (.int .i64 _))] rfl (by kernel_rfl)) rfl ?_))
    refine zN (zs rfl rfl (?_))
    refine TX (zQ ?_)
    refine X_cut_ret ?_
    have e : (validD (ls.map BS.l) rs num mk first m.abs) = ((decidD (ls.map BS.l) num mk m.slot m.hash (m.parts.ls.map BS.l)).2, .zero) := by
     rw [validA, if_neg (by simpa using h18), if_neg (by simpa using h24), if_neg (by show ¬ m.slot < first - 1; omega), if_pos ⟨by show first ≤ m.slot; omega, by simpa using h54⟩]
    rw [e]
    exact zX (BindV.zero : BindV) [_] Tryz.results34 ⟨⟨_, rfl, res_cellN rfl⟩, trivial⟩ rfl (fun w hw => ((SB w hw : St w0 H w).addNilB 5).addPure rfl)
   have p54 := h54
   try simp only [dp] at p54
   have hdz : ¬ (first ≤ m.slot ∧ (decidD (ls.map BS.l) num mk m.slot m.hash (m.parts.ls.map BS.l)).2 ≠ 0) := by rintro ⟨-, h0⟩; exact h0 (by simpa using h54)
   refine zk (X_cut _ (by repeat (first | with_reducible exact agree_refl | refine agree_upd rfl ?_ | refine agree_mix rfl ?_ | refine agree_setAll rfl ?_)) (⟨rfl, rfl, hdz⟩) (SB))
  have p40 := h40
  try simp only [dp] at p40
  have hdz : ¬ (first ≤ m.slot ∧ (decidD (ls.map BS.l) num mk m.slot m.hash (m.parts.ls.map BS.l)).2 ≠ 0) := by rintro ⟨h0, -⟩; omega
  refine zk (X_cut _ (by repeat (first | with_reducible exact agree_refl | refine agree_upd rfl ?_ | refine agree_mix rfl ?_ | refine agree_setAll rfl ?_)) (⟨rfl, rfl, hdz⟩) (SB))
 rintro τc0 _ _ ⟨-, rfl, hdz⟩ _
 refine T2 (zq (zf 4 rfl rfl) rfl (zq (zl rfl) rfl (zq (Qt_build [(0, (.int .i64 _))] rfl (by kernel_rfl)) rfl (zq (Qt_val (Qt_build [(0, .agg _)] rfl (by kernel_rfl)) (show _ = Value.agg (RToldV.mk ⟨m.slot, false, 0, (zeroV 32), ⟨none, 0, []⟩⟩ 0).cells from rfl)) rfl ?_))))
 refine ze rfl (Ef_allocN (fun b11 => ?_))
 refine zN (zs rfl rfl (?_))
 refine TX (zS (T2 ?_))
 refine zq (zf 37 rfl rfl) rfl (zq (zl rfl) rfl (zq (zL rfl Tryz.underlying33) rfl (zq (Qt_eql rfl rfl) rfl (TX (zC rfl (fun h64 => ?_) (fun h64 => ?_))))))
 ·
  have p64 := h64
  try simp only [dp] at p64
  refine T2 (zq (zn rfl rfl) rfl ?_)
  refine zN (zs rfl rfl (?_))
  refine TX (zQ (zr ?_))
  have e : (validD (ls.map BS.l) rs num mk first m.abs) = (0, ⟨m.slot, false, 0, zeroV 32, []⟩) := by
   rw [validA, if_neg (by simpa using h18), if_neg (by simpa using h24), if_neg (by show ¬ m.slot < first - 1; omega), if_neg hdz, if_pos (by show m.body.l.length = 0; omega)]
  rw [e]
  exact zX (⟨m.slot, false, 0, zeroV 32, ⟨none, 0, []⟩⟩ : BindV) [_] Tryz.results34 ⟨⟨_, rfl, res_cellN rfl⟩, trivial⟩ rfl (fun w hw => ((SB w hw : St w0 H w).addNilB 5).addPure rfl)
 have p64 := h64
 try simp only [dp] at p64
 refine S4 (zq (zn rfl rfl) rfl (zq (zf 37 rfl rfl) rfl (zq (zl rfl) rfl ?_)))
 refine ze rfl (zc (rCheckBatch_c (sa := sa) (sc := sc) (ks := ls) (rc := rq) (rs := rs) hrs (l := m.body.l) (by omega)) rfl (fun x70 => ?_))
 refine zq (zm (.tuple _) rfl) rfl (zq (Qt_extract rfl) rfl (zq (Qt_extract rfl) rfl (Qas rfl rfl (Qai rfl rfl (TX (zS (T2 ?_)))))))
 refine Qmi rfl rfl (zq (Qt_neq rfl rfl) rfl (TX (zC rfl (fun h74 => ?_) (fun h74 => ?_))))
 ·
  have p74 := h74
  try simp only [dp] at p74
  refine T2 (Qmi rfl rfl (zq (Qt_build [(1, (.int .i64 _))] rfl (by kernel_rfl)) rfl ?_))
  refine zN (zs rfl rfl (?_))
  refine TX (zQ (zr ?_))
  have e : (validD (ls.map BS.l) rs num mk first m.abs) = ((cbE rs m.body.l), .zero) := by
   rw [validA, if_neg (by simpa using h18), if_neg (by simpa using h24), if_neg (by show ¬ m.slot < first - 1; omega), if_neg hdz, if_neg (by show ¬ m.body.l.length = 0; omega), if_pos (by simpa using h74)]
  rw [e]
  exact zX (BindV.zero : BindV) [_] Tryz.results34 ⟨⟨_, rfl, res_cellN rfl⟩, trivial⟩ rfl (fun w hw => ((SB w hw : St w0 H w).addNilB 5).addPure rfl)
 have p74 := h74
 try simp only [dp] at p74
 refine S4 (zq (zf 37 rfl rfl) rfl (zq (zl rfl) rfl ?_))
 refine ze rfl (zc (rSum_c (l := m.body.l) (by omega)) rfl (fun x79 => ?_))
 refine ze rfl (Ef_allocN (fun b14 => ?_))
 refine zN (zs rfl rfl (?_))
 refine TX (T_cut [15, 80, 81, 82, 83, 84, 85, 86, 87, 88, 89, 90, 91, 92, 93, 94, 95, 96, 97, 98, 99, 100, 101, 102, 103, 104, 105] [] (fun us H' => ∃ (hb : Bool) (rg : Int), us = [] ∧ blk b11 (.cells (RToldV.mk ⟨m.slot, hb, rg, (zeroV 32), ⟨none, 0, []⟩⟩ 0).cells 101 (0, 0)) :: blk b14 (.cells (hlist (sha m.body.l)).toArray 32 (0, 0)) :: blk b4 (.cells (KeysV.mk ⟨sa, sc, ls⟩ ⟨ra, rs.length, rq⟩).cells 40 (0, 0)) :: blk b5 (.cells (ViewV.mk num (mk : Int)).cells 24 (0, 0)) :: blk b7 (.cells m.cells 82 (0, 0)) :: blk b8 (.cells (RToldV.mk BindV.zero 0).cells 101 (0, 0)) :: H = H' ∧ hb = decide (0 ≤ (bndD (ls.map BS.l) num mk m.slot (sha m.body.l) (m.parts.ls.map BS.l) (startN m.reg))) ∧ rg = if (bndD (ls.map BS.l) num mk m.slot (sha m.body.l) (m.parts.ls.map BS.l) (startN m.reg)) < 0 then 0 else (bndD (ls.map BS.l) num mk m.slot (sha m.body.l) (m.parts.ls.map BS.l) (startN m.reg))) ?_ ?_)
 ·
  refine T2 (Qai rfl rfl (TX (zB ?_)))
  refine T_loop [15, 80, 81, 82, 83, 84, 85, 86, 87, 88, 89, 90, 91, 92, 93, 94, 95, 96, 97, 98, 99, 100, 101, 102, 103, 104, 105] [15] (fun us H' => ∃ (k : Nat) (hb : Bool) (rg : Int), us = [.int .i64 (k : Int)] ∧ blk b11 (.cells (RToldV.mk ⟨m.slot, hb, rg, (zeroV 32), ⟨none, 0, []⟩⟩ 0).cells 101 (0, 0)) :: blk b14 (.cells (hlist (sha m.body.l)).toArray 32 (0, 0)) :: blk b4 (.cells (KeysV.mk ⟨sa, sc, ls⟩ ⟨ra, rs.length, rq⟩).cells 40 (0, 0)) :: blk b5 (.cells (ViewV.mk num (mk : Int)).cells 24 (0, 0)) :: blk b7 (.cells m.cells 82 (0, 0)) :: blk b8 (.cells (RToldV.mk BindV.zero 0).cells 101 (0, 0)) :: H = H' ∧ k ≤ (startN m.reg) ∧ (hb = decide (0 ≤ (bndD (ls.map BS.l) num mk m.slot (sha m.body.l) (m.parts.ls.map BS.l) k))) ∧ (rg = if (bndD (ls.map BS.l) num mk m.slot (sha m.body.l) (m.parts.ls.map BS.l) k) < 0 then 0 else (bndD (ls.map BS.l) num mk m.slot (sha m.body.l) (m.parts.ls.map BS.l) k))) (fun us => match us with | .int _ i :: _ => (startN m.reg) - i.toNat | _ => 0) ⟨0, false, 0, rfl, rfl, by omega, by rw [bndD_zero]; rfl, by rw [bndD_zero]; rfl⟩ SB ?_
  rintro τ0 _ _  ⟨k, hb, rg, rfl, rfl, hk0, hhb, hrg⟩ _
  refine zS (T2 ?_)
  refine Qmi rfl rfl (zq (zf 3 rfl rfl) rfl (zq (zl rfl) rfl (zq (Qt_lss rfl rfl) rfl (Qmb rfl rfl ?_))))
  refine TL_split 84 rfl (fun h84 => ?_) (fun h84 => ?_)
  ·
   have p84 := h84
   try simp only [dp] at p84
   refine zt rfl rfl h84 (Qmi rfl rfl (zt rfl rfl h84 (zq (Qt_leq rfl rfl) rfl (zq (zT (.bool _) rfl h84 rfl) rfl (TX ?_)))))
   refine zC rfl (fun h87 => ?_) (fun h87 => ?_)
   ·
    have p87 := h87
    try simp only [dp] at p87
    have hk : k < startN m.reg := startN_lt p84 p87
    have hst := bndD_succ (ls.map BS.l) num mk m.slot (sha m.body.l) (m.parts.ls.map BS.l) k
    refine zk (zx (zS (zB (T2 ?_))))
    refine zq (zn rfl rfl) rfl (zq (zn rfl rfl) rfl (Qmi rfl rfl (zq (zf 4 rfl rfl) rfl (zq (zl rfl) rfl (zq (Qt_add rfl rfl (by omega) (by omega)) rfl ?_)))))
    refine zq (zn rfl rfl) rfl (zq (zf 38 rfl rfl) rfl (zq (zl rfl) rfl ?_))
    refine ze rfl (zc (rWritten_c (num := num) hmk (sa := sa) (sc := sc) (ls := ls) (rt := ⟨ra, rs.length, rq⟩) (ps := m.parts.ls) hkl hps (by omega) (reg := (k : Int)) (slot := m.slot + 1) (h := sha m.body.l)) rfl (fun x99 => ?_))
    refine zq (Qt_eql rfl rfl) rfl (TX (zC rfl (fun h100 => ?_) (fun h100 => ?_)))
    ·
     have p100 := h100
     try simp only [dp] at p100
     rw [if_pos p100] at hst
     refine T2 (zq (zf 0 rfl rfl) rfl (zq (zf 1 rfl rfl) rfl ?_))
     refine zN (Ef_store1 (.bool _) rfl rfl (?_))
     refine TX (zR ?_)
     refine Qmi rfl rfl (zq (zf 0 rfl rfl) rfl (zq (zf 2 rfl rfl) rfl ?_))
     refine zN (Ef_store1 (.int .i64 _) rfl rfl (?_))
     refine zz (X_block (zx (zR ?_)))
     refine Qmi rfl rfl (zq (Qt_add rfl rfl (by omega) (by omega)) rfl (Qai rfl rfl (zz ?_)))
     apply X_loop
     case ha => exact (by repeat (first | with_reducible exact agree_refl | refine agree_upd rfl ?_ | refine agree_mix rfl ?_ | refine agree_setAll rfl ?_))
     case hI => exact (by first | exact ⟨k + 1, true, (k : Int), rfl, rfl, by omega, by rw [hst]; exact (decide_eq_true (by omega)).symm, by rw [hst, if_neg (by omega)]⟩ | exact ⟨k + 1, hb, rg, rfl, rfl, by omega, by rw [hst]; exact hhb, by rw [hst]; exact hrg⟩)
     case hm => exact by show (startN m.reg) - (k + 1 : Int).toNat < (startN m.reg) - (k : Int).toNat; omega
     case hH => exact SB
    have p100 := h100
    try simp only [dp] at p100
    rw [if_neg p100] at hst
    refine zk (X_block (zx (zR ?_)))
    refine Qmi rfl rfl (zq (Qt_add rfl rfl (by omega) (by omega)) rfl (Qai rfl rfl (zz ?_)))
    apply X_loop
    case ha => exact (by repeat (first | with_reducible exact agree_refl | refine agree_upd rfl ?_ | refine agree_mix rfl ?_ | refine agree_setAll rfl ?_))
    case hI => exact (by first | exact ⟨k + 1, true, (k : Int), rfl, rfl, by omega, by rw [hst]; exact (decide_eq_true (by omega)).symm, by rw [hst, if_neg (by omega)]⟩ | exact ⟨k + 1, hb, rg, rfl, rfl, by omega, by rw [hst]; exact hhb, by rw [hst]; exact hrg⟩)
    case hm => exact by show (startN m.reg) - (k + 1 : Int).toNat < (startN m.reg) - (k : Int).toNat; omega
    case hH => exact SB
   have p87 := h87
   try simp only [dp] at p87
   have hks : k = startN m.reg := by have h41 := startN_le m.reg; omega
   refine zY (zG (zW (zE ?_)))
   refine X_cut _ (by repeat (first | with_reducible exact agree_refl | refine agree_upd rfl ?_ | refine agree_mix rfl ?_ | refine agree_setAll rfl ?_)) (⟨hb, rg, rfl, rfl, by rw [← hks]; exact hhb, by rw [← hks]; exact hrg⟩) (SB)
  have p84 := h84
  try simp only [dp] at p84
  refine zp rfl rfl h84 rfl (zp rfl rfl h84 rfl (zq (zF (.bool _) rfl h84 rfl) rfl (TX (T_cond_false rfl rfl ?_))))
  have hks : k = startN m.reg := by have h41 := startN_ge p84; omega
  refine zY (zG (zW (zE ?_)))
  refine X_cut _ (by repeat (first | with_reducible exact agree_refl | refine agree_upd rfl ?_ | refine agree_mix rfl ?_ | refine agree_setAll rfl ?_)) (⟨hb, rg, rfl, rfl, by rw [← hks]; exact hhb, by rw [← hks]; exact hrg⟩) (SB)
 rintro τc1 _ _ ⟨hb, rg, -, rfl, hhb, hrg⟩ _
 refine zS (T2 ?_)
 refine zq (zf 0 rfl rfl) rfl (zq (zf 1 rfl rfl) rfl (zq (zl rfl) rfl (zq (Qt_not rfl) rfl (TX (zC rfl (fun h109 => ?_) (fun h109 => ?_))))))
 ·
  have p109 := h109
  try simp only [dp] at p109
  have hbf : hb = false := by simpa using h109
  have hlt : (bndD (ls.map BS.l) num mk m.slot (sha m.body.l) (m.parts.ls.map BS.l) (startN m.reg)) < 0 := by rw [hbf] at hhb; have := of_decide_eq_false hhb.symm; omega
  refine T2 (zq (Qt_build [(1, (.int .i64 _))] rfl (by kernel_rfl)) rfl ?_)
  refine zN (zs rfl rfl (?_))
  refine TX (zQ (zr ?_))
  have e : (validD (ls.map BS.l) rs num mk first m.abs) = (12, .zero) := by
   rw [validA, if_neg (by simpa using h18), if_neg (by simpa using h24), if_neg (by show ¬ m.slot < first - 1; omega), if_neg hdz, if_neg (by show ¬ m.body.l.length = 0; omega), if_neg (by simpa using h74), if_pos hlt]
  rw [e]
  exact zX (BindV.zero : BindV) [_] Tryz.results34 ⟨⟨_, rfl, res_cellN rfl⟩, trivial⟩ rfl (fun w hw => ((SB w hw : St w0 H w).addNilB 5).addPure rfl)
 have p109 := h109
 try simp only [dp] at p109
 have hbt : hb = true := by simpa using h109
 subst hbt
 have hge : 0 ≤ (bndD (ls.map BS.l) num mk m.slot (sha m.body.l) (m.parts.ls.map BS.l) (startN m.reg)) := of_decide_eq_true hhb.symm
 rw [if_neg (by omega)] at hrg
 subst hrg
 refine S4 (zq (zn rfl rfl) rfl (zq (zf 0 rfl rfl) rfl (zq (zf 3 rfl rfl) rfl ?_)))
 refine zN (zs rfl rfl (?_))
 refine T4 (zq (zf 0 rfl rfl) rfl (zq (zf 35 rfl rfl) rfl (zq (zl rfl) rfl (zq (zf 37 rfl rfl) rfl (zq (zl rfl) rfl ?_)))))
 refine TL_conv (fun w hw => hw.addNilB 5) ?_
 refine ze rfl (Ef_appendB (sv := .slice _ _ _) (xv := .slice _ _ _) (l := []) (l' := m.body.l) rfl rfl (by simp; omega) rfl (fun a119 c119 => ?_))
 rw [List.nil_append]
 refine zq (zf 0 rfl rfl) rfl (zq (zf 35 rfl rfl) rfl ?_)
 refine zN (Ef_store1 (.slice _ _ _) rfl rfl (?_))
 refine T4 (zq (zn rfl rfl) rfl ?_)
 refine zN (zs rfl rfl (?_))
 refine TX (zQ ?_)
 have e : (validD (ls.map BS.l) rs num mk first m.abs) = (0, ⟨m.slot, true, (bndD (ls.map BS.l) num mk m.slot (sha m.body.l) (m.parts.ls.map BS.l) (startN m.reg)), sha m.body.l, m.body.l⟩) := by
  rw [validA, if_neg (by simpa using h18), if_neg (by simpa using h24), if_neg (by show ¬ m.slot < first - 1; omega), if_neg hdz, if_neg (by show ¬ m.body.l.length = 0; omega), if_neg (by simpa using h74), if_neg (by show ¬ (bndD (ls.map BS.l) num mk m.slot (sha m.body.l) (m.parts.ls.map BS.l) (startN m.reg)) < 0; omega)]
 rw [e]
 exact zX (⟨m.slot, true, (bndD (ls.map BS.l) num mk m.slot (sha m.body.l) (m.parts.ls.map BS.l) (startN m.reg)), sha m.body.l, ⟨a119, c119, m.body.l⟩⟩ : BindV) [_] Tryz.results34 ⟨⟨_, rfl, res_cellN rfl⟩, trivial⟩ rfl (fun w hw => (SB w hw : St w0 (row (.slice a119 (m.body.l).length c119) 5 1 (bytesV (m.body.l)) :: H) w).addPure rfl)
end Go.Proofs.YtnijomppbgdmnaaGreat
