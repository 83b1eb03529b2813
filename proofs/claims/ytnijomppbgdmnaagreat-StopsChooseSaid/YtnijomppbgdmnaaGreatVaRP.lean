/- Walks: bound and Valid of package stops. -/
import Derived.Test.YtnijomppbgdmnaaGreatSgP
import Derived.Test.YtnijomppbgdmnaaGreatQcRP
import Derived.Test.YtnijomppbgdmnaaGreatMbRP
namespace Go.Proofs.YtnijomppbgdmnaaGreat
open Go.RowKit Go.Sx
set_option maxRecDepth 100000
set_option linter.unusedSimpArgs false
set_option linter.unusedVariables false
def startN (x : Int) : Nat := if 41 < x then 41 else x.toNat
theorem startN_eq (x : Int) : (if (41 : Int) < (if (0 : Int) > x then 0 else x) then (41 : Int) else (if (0 : Int) > x then 0 else x)) = ((startN x : Nat) : Int) := by
 unfold startN; repeat' split
 all_goals omega
theorem startN_le (x : Int) : startN x ≤ 41 := by unfold startN; split <;> omega
/-- The greatest regency below one in which a batch is proved written. -/
def bndD (K : List (List UInt8)) (num : Int) (mk : Nat) (slot : Int) (h : Vector UInt8 32) (P : List (List UInt8)) : Nat → Int
 | 0 => -1
 | n + 1 => if writD K num mk (n : Int) (slot + 1) h P = 0 then (n : Int) else bndD K num mk slot h P n
theorem bndD_zero (K : List (List UInt8)) (num : Int) (mk : Nat) (slot : Int) (h : Vector UInt8 32) (P : List (List UInt8)) : bndD K num mk slot h P 0 = -1 := rfl
theorem bndD_succ (K : List (List UInt8)) (num : Int) (mk : Nat) (slot : Int) (h : Vector UInt8 32) (P : List (List UInt8)) (n : Nat) : bndD K num mk slot h P (n + 1) = if writD K num mk (n : Int) (slot + 1) h P = 0 then (n : Int) else bndD K num mk slot h P n := rfl
theorem bndD_range (K : List (List UInt8)) (num : Int) (mk : Nat) (slot : Int) (h : Vector UInt8 32) (P : List (List UInt8)) : ∀ n : Nat, -1 ≤ bndD K num mk slot h P n ∧ bndD K num mk slot h P n < n
 | 0 => by rw [bndD_zero]; omega
 | n + 1 => by
  have := bndD_range K num mk slot h P n
  rw [bndD_succ]; split <;> omega
structure BindD where
 last : Int
 has : Bool
 reg : Int
 hash : Vector UInt8 32
 batch : List UInt8
@[reducible] def BindD.zero : BindD := ⟨0, false, 0, zeroV 32, []⟩
def BindV.abs (b : BindV) : BindD := ⟨b.last, b.has, b.reg, b.hash, b.batch.l⟩
def bndM (K : List (List UInt8)) (num : Int) (mk : Nat) (m : MsgD) : Int := bndD K num mk m.slot (sha m.body) m.parts (startN m.reg)
/-- What a member tells: the error, the binding. -/
def validD (K : List (List UInt8)) (rs : List (Vector UInt8 32)) (num : Int) (mk : Nat) (first : Int) (m : MsgD) : Int × BindD :=
 if m.kind ≠ 5 then (15, .zero) else if m.view ≠ num then (9, .zero) else if m.slot < first - 1 then (8, .zero)
 else if first ≤ m.slot ∧ (decidD K num mk m.slot m.hash m.parts).2 ≠ 0 then ((decidD K num mk m.slot m.hash m.parts).2, .zero)
 else if m.body.length = 0 then (0, ⟨m.slot, false, 0, zeroV 32, []⟩)
 else if cbE rs m.body ≠ 0 then (cbE rs m.body, .zero)
 else if bndM K num mk m < 0 then (12, .zero)
 else (0, ⟨m.slot, true, bndM K num mk m, sha m.body, m.body⟩)
theorem validA (K : List (List UInt8)) (rs : List (Vector UInt8 32)) (num : Int) (mk : Nat) (first : Int) (m : MsgV) : validD K rs num mk first m.abs =
 if m.kind ≠ 5 then (15, .zero) else if m.view ≠ num then (9, .zero) else if m.slot < first - 1 then (8, .zero)
 else if first ≤ m.slot ∧ (decidD K num mk m.slot m.hash (m.parts.ls.map BS.l)).2 ≠ 0 then ((decidD K num mk m.slot m.hash (m.parts.ls.map BS.l)).2, .zero)
 else if m.body.l.length = 0 then (0, ⟨m.slot, false, 0, zeroV 32, []⟩)
 else if cbE rs m.body.l ≠ 0 then (cbE rs m.body.l, .zero)
 else if bndD K num mk m.slot (sha m.body.l) (m.parts.ls.map BS.l) (startN m.reg) < 0 then (12, .zero)
 else (0, ⟨m.slot, true, bndD K num mk m.slot (sha m.body.l) (m.parts.ls.map BS.l) (startN m.reg), sha m.body.l, m.body.l⟩) := rfl
attribute [local irreducible] sha writD decidD cbE
set_option maxHeartbeats 1000000 in
theorem bound_c {w0 : World} {H : List SA} {num : Int} {mk : Nat} (hmk : mk < 65536) {sa : Option Addr} {sc : Nat} {ls : List BS} {rt : Sl} [rk : RdC w0 H (.slice sa ls.length sc) 1 (ls.map BS.val)] [rke : RdE w0 H ls] (hkl : ∀ x ∈ ls, x.l.length ≤ 4294967000) {m : MsgV} [rb : RdB w0 H (.slice m.body.a m.body.l.length m.body.c) m.body.l] [rc : RdC w0 H (.slice m.parts.a m.parts.ls.length m.parts.c) 1 (m.parts.ls.map BS.val)] [re : RdE w0 H m.parts.ls] (hsl : 0 ≤ m.slot ∧ m.slot ≤ 60) (hps : ∀ x ∈ m.parts.ls, x.l.length ≤ 4294960000) (hpn : m.parts.ls.length ≤ 16) {h : Vector UInt8 32} :
 CT Tryz.prog w0 (H) 63 [.agg (KeysV.mk ⟨sa, sc, ls⟩ rt).cells, .agg (ViewV.mk num (mk : Int)).cells, .agg m.cells, .agg (hlist h).toArray] (α := Unit) (fun _ => .int .i64 (bndD (ls.map BS.l) num mk m.slot h (m.parts.ls.map BS.l) (startN m.reg))) (fun _ => H) := by
 refine CT_intro Tryz.func63 rfl Tryz.ntmps63 rfl ?_
 refine T2 ?_
 refine ze rfl (Ef_boxN rfl (fun b4 => ?_))
 refine ze rfl (Ef_boxN rfl (fun b5 => ?_))
 refine ze rfl (Ef_boxN rfl (fun b6 => ?_))
 refine ze rfl (Ef_boxN rfl (fun b7 => ?_))
 refine Qai rfl rfl (TX (zS (T2 ?_)))
 refine zq (zf 3 rfl rfl) rfl (zq (zl rfl) rfl (zq (Qt_max rfl rfl) rfl (zq (Qt_min rfl rfl) rfl ?_)))
 rw [startN_eq m.reg]
 have hst := startN_le m.reg
 refine zq (Qt_sub rfl rfl (by omega) (by omega)) rfl (Qai rfl rfl (TX (zB ?_)))
 refine T_loop [8, 9, 15, 16, 17, 18, 19, 20, 21, 22, 23, 24, 25, 26, 27, 28, 29, 30] [9] (fun us H' => ∃ (n : Nat), us = [.int .i64 ((n : Int) - 1)] ∧ blk b4 (.cells (KeysV.mk ⟨sa, sc, ls⟩ rt).cells 40 (0, 0)) :: blk b5 (.cells (ViewV.mk num (mk : Int)).cells 24 (0, 0)) :: blk b6 (.cells m.cells 82 (0, 0)) :: blk b7 (.cells (hlist h).toArray 32 (0, 0)) :: H = H' ∧ n ≤ 41 ∧ bndD (ls.map BS.l) num mk m.slot h (m.parts.ls.map BS.l) (startN m.reg) = bndD (ls.map BS.l) num mk m.slot h (m.parts.ls.map BS.l) n) (fun us => match us with | .int _ i :: _ => (i + 1).toNat | _ => 0) ⟨startN m.reg, rfl, rfl, startN_le _, rfl⟩ SB ?_
 rintro τ0 _ _  ⟨n, rfl, rfl, hn, hb⟩ _
 refine zS (T2 ?_)
 refine Qmi rfl rfl (zq (Qt_geq rfl rfl) rfl (TX (zC rfl (fun h16 => ?_) (fun h16 => ?_))))
 ·
  have p16 := h16
  try simp only [dp] at p16
  obtain ⟨q, rfl⟩ : ∃ q : Nat, n = q + 1 := ⟨n - 1, by omega⟩
  rw [show ((q + 1 : Nat) : Int) - 1 = (q : Int) from by omega]
  rw [bndD_succ] at hb
  refine zk (zx (zS (zB (T2 ?_))))
  refine zq (zn rfl rfl) rfl (zq (zn rfl rfl) rfl (Qmi rfl rfl (zq (zf 4 rfl rfl) rfl (zq (zl rfl) rfl (zq (Qt_add rfl rfl (by omega) (by omega)) rfl ?_)))))
  refine zq (zn rfl rfl) rfl (zq (zf 38 rfl rfl) rfl (zq (zl rfl) rfl ?_))
  refine ze rfl (zc (written_c (num := num) hmk (sa := sa) (sc := sc) (ls := ls) (rt := rt) (ps := m.parts.ls) hkl hps (by omega) (reg := (q : Int)) (slot := m.slot + 1) (h := h)) rfl (fun x28 => ?_))
  refine zq (Qt_eql rfl rfl) rfl (TX (zC rfl (fun h29 => ?_) (fun h29 => ?_)))
  ·
   have p29 := h29
   try simp only [dp] at p29
   refine T2 (Qmi rfl rfl (Qai rfl rfl (TX (zQ (zb (zr (X_loop_ret (zb (zr ?_)))))))))
   rw [hb, if_pos (by omega)]
   exact zX () [_] Tryz.results63 ⟨rfl, trivial⟩ rfl SB
  have p29 := h29
  try simp only [dp] at p29
  refine zk (X_block (zx (zR ?_)))
  refine Qmi rfl rfl (zq (Qt_sub rfl rfl (by omega) (by omega)) rfl (Qai rfl rfl (zz ?_)))
  apply X_loop
  case ha => exact (by repeat (first | with_reducible exact agree_refl | refine agree_upd rfl ?_ | refine agree_mix rfl ?_ | refine agree_setAll rfl ?_))
  case hI => exact ⟨q, rfl, rfl, by omega, by rw [hb, if_neg (by omega)]⟩
  case hm => exact by show ((q : Int) - 1 + 1).toNat < ((q : Int) + 1).toNat; omega
  case hH => exact SB
 have p16 := h16
 try simp only [dp] at p16
 obtain rfl : n = 0 := by omega
 rw [bndD_zero] at hb
 refine zY (zG (zW (zE (zx (T2 ?_)))))
 refine Qai rfl rfl (TX (zQ ?_))
 rw [hb]
 exact zX () [_] Tryz.results63 ⟨rfl, trivial⟩ rfl SB
set_option maxHeartbeats 1000000 in
theorem valid_c {w0 : World} {H : List SA} {num : Int} {mk : Nat} (hmk : mk < 65536) {sa : Option Addr} {sc : Nat} {ls : List BS} [rk : RdC w0 H (.slice sa ls.length sc) 1 (ls.map BS.val)] [rke : RdE w0 H ls] (hkl : ∀ x ∈ ls, x.l.length ≤ 4294967000) {ra : Option Addr} {rq : Nat} {rs : List (Vector UInt8 32)} [hrr : RdC w0 H (.slice ra rs.length rq) 32 (rs.flatMap hlist)] (hrs : rs.length ≤ 1000) {m : MsgV} [rb : RdB w0 H (.slice m.body.a m.body.l.length m.body.c) m.body.l] [rc : RdC w0 H (.slice m.parts.a m.parts.ls.length m.parts.c) 1 (m.parts.ls.map BS.val)] [re : RdE w0 H m.parts.ls] (hsl : 0 ≤ m.slot ∧ m.slot ≤ 60) (hps : ∀ x ∈ m.parts.ls, x.l.length ≤ 4294960000) (hpn : m.parts.ls.length ≤ 16) (hml : m.body.l.length ≤ 4294960000) {first : Int} (hfi : -1000 ≤ first ∧ first ≤ 1000) :
 CT Tryz.prog w0 (H) 30 [.agg (KeysV.mk ⟨sa, sc, ls⟩ ⟨ra, rs.length, rq⟩).cells, .agg (ViewV.mk num (mk : Int)).cells, .int .i64 first, .agg m.cells] (α := BindV) (fun y => .tuple #[.agg y.cells, .int .i64 (validD (ls.map BS.l) rs num mk first m.abs).1]) (fun y => pu (y.abs = (validD (ls.map BS.l) rs num mk first m.abs).2) :: row (.slice y.batch.a (y.batch.l).length y.batch.c) 5 1 (bytesV (y.batch.l)) :: H) := by
 refine CT_intro Tryz.func30 rfl Tryz.ntmps30 rfl ?_
 refine T2 ?_
 refine ze rfl (Ef_boxN rfl (fun b4 => ?_))
 refine ze rfl (Ef_boxN rfl (fun b5 => ?_))
 refine ze rfl (Ef_boxN rfl (fun b7 => ?_))
 refine ze rfl (Ef_allocN (fun b8 => ?_))
 refine Qai rfl rfl (TX (zS (zB (T2 ?_))))
 refine zq (zf 0 rfl rfl) rfl (zq (zl rfl) rfl (zq (Qt_neq rfl rfl) rfl (Qab rfl rfl (TX (zC rfl (fun h15 => ?_) (fun h15 => ?_))))))
 ·
  have p15 := h15
  try simp only [dp] at p15
  refine T2 (zq (Qt_build [] rfl (by kernel_rfl)) rfl ?_)
  refine zN (zs rfl rfl (?_))
  refine Qai rfl rfl (TX (zQ (zb (zr ?_))))
  have e : (validD (ls.map BS.l) rs num mk first m.abs) = (15, .zero) := by
   rw [validA, if_pos (by simpa using h15)]
  rw [e]
  exact zX (BindV.zero : BindV) [_, _] Tryz.results30 ⟨⟨_, rfl, res_cellN rfl⟩, rfl, trivial⟩ rfl (fun w hw => ((SB w hw : St w0 H w).addNilB 5).addPure rfl)
 have p15 := h15
 try simp only [dp] at p15
 refine T2 (zq (zf 2 rfl rfl) rfl (zq (zl rfl) rfl (zq (zf 0 rfl rfl) rfl (zq (zl rfl) rfl (zq (Qt_neq rfl rfl) rfl ?_)))))
 refine Qab rfl rfl (TX (zC rfl (fun h20 => ?_) (fun h20 => ?_)))
 ·
  have p20 := h20
  try simp only [dp] at p20
  refine T2 (zq (Qt_build [] rfl (by kernel_rfl)) rfl ?_)
  refine zN (zs rfl rfl (?_))
  refine Qai rfl rfl (TX (zQ (zb (zr ?_))))
  have e : (validD (ls.map BS.l) rs num mk first m.abs) = (9, .zero) := by
   rw [validA, if_neg (by simpa using h15), if_pos (by simpa using h20)]
  rw [e]
  exact zX (BindV.zero : BindV) [_, _] Tryz.results30 ⟨⟨_, rfl, res_cellN rfl⟩, rfl, trivial⟩ rfl (fun w hw => ((SB w hw : St w0 H w).addNilB 5).addPure rfl)
 have p20 := h20
 try simp only [dp] at p20
 refine T2 (zq (zf 4 rfl rfl) rfl (zq (zl rfl) rfl (Qmi rfl rfl (zq (Qt_sub rfl rfl (by omega) (by omega)) rfl (zq (Qt_lss rfl rfl) rfl ?_)))))
 refine Qab rfl rfl (TX (zC rfl (fun h27 => ?_) (fun h27 => ?_)))
 ·
  have p27 := h27
  try simp only [dp] at p27
  refine T2 (zq (Qt_build [] rfl (by kernel_rfl)) rfl ?_)
  refine zN (zs rfl rfl (?_))
  refine Qai rfl rfl (TX (zQ (zb (zr ?_))))
  have e : (validD (ls.map BS.l) rs num mk first m.abs) = (8, .zero) := by
   rw [validA, if_neg (by simpa using h15), if_neg (by simpa using h20), if_pos (by show m.slot < first - 1; omega)]
  rw [e]
  exact zX (BindV.zero : BindV) [_, _] Tryz.results30 ⟨⟨_, rfl, res_cellN rfl⟩, rfl, trivial⟩ rfl (fun w hw => ((SB w hw : St w0 H w).addNilB 5).addPure rfl)
 have p27 := h27
 try simp only [dp] at p27
 refine T2 (zq (zf 38 rfl rfl) rfl (zq (zl rfl) rfl (zq (zL rfl Tryz.underlying28) rfl (zq (Qt_gtr rfl rfl) rfl (Qab rfl rfl ?_)))))
 refine TX (zC rfl (fun h34 => ?_) (fun h34 => ?_))
 ·
  have p34 := h34
  try simp only [dp] at p34
  exact absurd h34 (by simp; omega)
 have p34 := h34
 try simp only [dp] at p34
 refine zk (X_block (zx ?_))
 refine T_cut [9, 10, 11, 40, 41, 42, 43, 44, 45, 46, 47, 48, 49, 50, 51, 52, 53, 54, 55, 56, 57, 58, 59] [] (fun us H' => us = [] ∧ blk b4 (.cells (KeysV.mk ⟨sa, sc, ls⟩ ⟨ra, rs.length, rq⟩).cells 40 (0, 0)) :: blk b5 (.cells (ViewV.mk num (mk : Int)).cells 24 (0, 0)) :: blk b7 (.cells m.cells 82 (0, 0)) :: blk b8 (.cells BindV.zero.cells 89 (0, 0)) :: H = H' ∧ ¬ (first ≤ m.slot ∧ (decidD (ls.map BS.l) num mk m.slot m.hash (m.parts.ls.map BS.l)).2 ≠ 0)) ?_ ?_
 ·
  refine T2 (zq (zf 4 rfl rfl) rfl (zq (zl rfl) rfl (Qmi rfl rfl (zq (Qt_geq rfl rfl) rfl (TX ?_)))))
  refine zC rfl (fun h43 => ?_) (fun h43 => ?_)
  ·
   have p43 := h43
   try simp only [dp] at p43
   refine T2 (zq (zn rfl rfl) rfl (zq (zn rfl rfl) rfl (zq (zf 4 rfl rfl) rfl (zq (zl rfl) rfl (zq (zf 5 rfl rfl) rfl ?_)))))
   refine zq (zn rfl rfl) rfl (zq (zf 38 rfl rfl) rfl (zq (zl rfl) rfl ?_))
   refine ze rfl (zc (decided_c (num := num) hmk (sa := sa) (sc := sc) (ls := ls) (rt := ⟨ra, rs.length, rq⟩) (ps := m.parts.ls) hkl hps (by omega) (slot := m.slot) (h := m.hash)) rfl (fun x53 => ?_))
   refine zq (zm (.tuple _) rfl) rfl (zq (Qt_extract rfl) rfl (zq (Qt_extract rfl) rfl (Qai rfl rfl (Qai rfl rfl (T4 ?_)))))
   refine Qmi rfl rfl (zq (Qt_neq rfl rfl) rfl (TX (zC rfl (fun h57 => ?_) (fun h57 => ?_))))
   ·
    have p57 := h57
    try simp only [dp] at p57
    refine T2 (zq (Qt_build [] rfl (by kernel_rfl)) rfl (Qmi rfl rfl ?_))
    refine zN (zs rfl rfl (?_))
    refine Qai rfl rfl (TX (zQ ?_))
    refine X_cut_ret ?_
    have e : (validD (ls.map BS.l) rs num mk first m.abs) = ((decidD (ls.map BS.l) num mk m.slot m.hash (m.parts.ls.map BS.l)).2, .zero) := by
     rw [validA, if_neg (by simpa using h15), if_neg (by simpa using h20), if_neg (by show ¬ m.slot < first - 1; omega), if_pos ⟨by show first ≤ m.slot; omega, by simpa using h57⟩]
    rw [e]
    exact zX (BindV.zero : BindV) [_, _] Tryz.results30 ⟨⟨_, rfl, res_cellN rfl⟩, rfl, trivial⟩ rfl (fun w hw => ((SB w hw : St w0 H w).addNilB 5).addPure rfl)
   have p57 := h57
   try simp only [dp] at p57
   have hdz : ¬ (first ≤ m.slot ∧ (decidD (ls.map BS.l) num mk m.slot m.hash (m.parts.ls.map BS.l)).2 ≠ 0) := by rintro ⟨-, h0⟩; exact h0 (by simpa using h57)
   refine zk (X_cut _ (by repeat (first | with_reducible exact agree_refl | refine agree_upd rfl ?_ | refine agree_mix rfl ?_ | refine agree_setAll rfl ?_)) (⟨rfl, rfl, hdz⟩) (SB))
  have p43 := h43
  try simp only [dp] at p43
  have hdz : ¬ (first ≤ m.slot ∧ (decidD (ls.map BS.l) num mk m.slot m.hash (m.parts.ls.map BS.l)).2 ≠ 0) := by rintro ⟨h0, -⟩; omega
  refine zk (X_cut _ (by repeat (first | with_reducible exact agree_refl | refine agree_upd rfl ?_ | refine agree_mix rfl ?_ | refine agree_setAll rfl ?_)) (⟨rfl, rfl, hdz⟩) (SB))
 rintro τc0 _ _ ⟨-, rfl, hdz⟩ _
 refine T2 (zq (zf 4 rfl rfl) rfl (zq (zl rfl) rfl (zq (Qt_build [(0, (.int .i64 _))] rfl (by kernel_rfl)) rfl ?_)))
 refine ze rfl (Ef_allocN (fun b12 => ?_))
 refine zN (zs rfl rfl (?_))
 refine TX (zS (T2 ?_))
 refine zq (zf 37 rfl rfl) rfl (zq (zl rfl) rfl (zq (zL rfl Tryz.underlying33) rfl (zq (Qt_eql rfl rfl) rfl (TX (zC rfl (fun h66 => ?_) (fun h66 => ?_))))))
 ·
  have p66 := h66
  try simp only [dp] at p66
  refine T2 (zq (zn rfl rfl) rfl ?_)
  refine zN (zs rfl rfl (?_))
  refine Qai rfl rfl (TX (zQ (zr ?_)))
  have e : (validD (ls.map BS.l) rs num mk first m.abs) = (0, ⟨m.slot, false, 0, zeroV 32, []⟩) := by
   rw [validA, if_neg (by simpa using h15), if_neg (by simpa using h20), if_neg (by show ¬ m.slot < first - 1; omega), if_neg hdz, if_pos (by show m.body.l.length = 0; omega)]
  rw [e]
  exact zX (⟨m.slot, false, 0, zeroV 32, ⟨none, 0, []⟩⟩ : BindV) [_, _] Tryz.results30 ⟨⟨_, rfl, res_cellN rfl⟩, rfl, trivial⟩ rfl (fun w hw => ((SB w hw : St w0 H w).addNilB 5).addPure rfl)
 have p66 := h66
 try simp only [dp] at p66
 refine zk (zx (zS (T2 ?_)))
 refine zq (zn rfl rfl) rfl (zq (zf 37 rfl rfl) rfl (zq (zl rfl) rfl ?_))
 refine ze rfl (zc (checkBatchE_c (sa := sa) (sc := sc) (ks := ls) (rc := rq) (rs := rs) hrs (l := m.body.l) (by omega)) rfl (fun x72 => ?_))
 refine zq (zm (.tuple _) rfl) rfl (zq (Qt_extract rfl) rfl (zq (Qt_extract rfl) rfl (Qas rfl rfl (Qai rfl rfl (T4 ?_)))))
 refine Qmi rfl rfl (zq (Qt_neq rfl rfl) rfl (TX (zC rfl (fun h76 => ?_) (fun h76 => ?_))))
 ·
  have p76 := h76
  try simp only [dp] at p76
  refine T2 (zq (Qt_build [] rfl (by kernel_rfl)) rfl (Qmi rfl rfl ?_))
  refine zN (zs rfl rfl (?_))
  refine Qai rfl rfl (TX (zQ (zr ?_)))
  have e : (validD (ls.map BS.l) rs num mk first m.abs) = ((cbE rs m.body.l), .zero) := by
   rw [validA, if_neg (by simpa using h15), if_neg (by simpa using h20), if_neg (by show ¬ m.slot < first - 1; omega), if_neg hdz, if_neg (by show ¬ m.body.l.length = 0; omega), if_pos (by simpa using h76)]
  rw [e]
  exact zX (BindV.zero : BindV) [_, _] Tryz.results30 ⟨⟨_, rfl, res_cellN rfl⟩, rfl, trivial⟩ rfl (fun w hw => ((SB w hw : St w0 H w).addNilB 5).addPure rfl)
 have p76 := h76
 try simp only [dp] at p76
 refine zk (zx (zS ?_))
 refine T_draw (blk b7 (.cells m.cells 82 (0, 0)) :: H) [(0, true), (1, true), (3, true), (4, true), (6, true), (2, false), (5, false), (7, false), (8, true), (9, false), (10, true), (11, false)] (by kernel_rfl) (by kernel_rfl) rfl (by kernel_rfl) SB (fun hns1 => ?_)
 refine zd hns1 rfl (zf 37 rfl rfl) rfl (zd hns1 rfl (zl rfl) rfl (zd hns1 rfl (zf 37 rfl rfl) rfl (zd hns1 rfl (zl rfl) rfl (zd hns1 rfl (zf 1 rfl rfl) rfl ?_))))
 refine DL_e rfl rfl (zc (sum_c (l := m.body.l) (by omega)) rfl (fun x81 => ⟨SB, ?_⟩))
 refine DL_e rfl rfl (zc (clone_c (l := m.body.l) (by omega)) rfl (fun x84 => ⟨SB, ?_⟩))
 refine DL_n rfl (Ef_store1 (.bool _) rfl rfl (⟨SB, ?_⟩))
 refine zd hns1 rfl (zf 3 rfl rfl) rfl ?_
 refine DL_n rfl (zs rfl rfl (⟨SB, ?_⟩))
 refine zd hns1 rfl (zf 35 rfl rfl) rfl ?_
 refine DL_n rfl (Ef_store1 (.slice _ _ _) rfl rfl (⟨SB, ?_⟩))
 refine DL_nil (zx (zS (T2 ?_)))
 refine zq (zn rfl rfl) rfl (zq (zn rfl rfl) rfl (zq (zn rfl rfl) rfl (zq (zf 3 rfl rfl) rfl (zq (zn rfl rfl) rfl ?_))))
 refine ze rfl (zc (bound_c (num := num) hmk (sa := sa) (sc := sc) (ls := ls) (rt := ⟨ra, rs.length, rq⟩) hkl (m := m) hsl hps hpn (h := sha m.body.l)) rfl (fun x93 => ?_))
 refine zq (zf 2 rfl rfl) rfl ?_
 refine zN (Ef_store1 (.int .i64 _) rfl rfl (?_))
 refine T4 (zq (zf 2 rfl rfl) rfl (zq (zl rfl) rfl (zq (Qt_lss rfl rfl) rfl (TX (zC rfl (fun h97 => ?_) (fun h97 => ?_))))))
 ·
  have p97 := h97
  try simp only [dp] at p97
  refine T2 (zq (Qt_build [] rfl (by kernel_rfl)) rfl ?_)
  refine zN (zs rfl rfl (?_))
  refine Qai rfl rfl (TX (zQ (zr ?_)))
  have e : (validD (ls.map BS.l) rs num mk first m.abs) = (12, .zero) := by
   rw [validA, if_neg (by simpa using h15), if_neg (by simpa using h20), if_neg (by show ¬ m.slot < first - 1; omega), if_neg hdz, if_neg (by show ¬ m.body.l.length = 0; omega), if_neg (by simpa using h76), if_pos (by show (bndD (ls.map BS.l) num mk m.slot (sha m.body.l) (m.parts.ls.map BS.l) (startN m.reg)) < 0; omega)]
  rw [e]
  exact zX (BindV.zero : BindV) [_, _] Tryz.results30 ⟨⟨_, rfl, res_cellN rfl⟩, rfl, trivial⟩ rfl (fun w hw => ((SB w hw : St w0 H w).addNilB 5).addPure rfl)
 have p97 := h97
 try simp only [dp] at p97
 refine S4 (zq (zn rfl rfl) rfl ?_)
 refine zN (zs rfl rfl (?_))
 refine Qai rfl rfl (TX (zQ ?_))
 have e : (validD (ls.map BS.l) rs num mk first m.abs) = (0, ⟨m.slot, true, (bndD (ls.map BS.l) num mk m.slot (sha m.body.l) (m.parts.ls.map BS.l) (startN m.reg)), sha m.body.l, m.body.l⟩) := by
  rw [validA, if_neg (by simpa using h15), if_neg (by simpa using h20), if_neg (by show ¬ m.slot < first - 1; omega), if_neg hdz, if_neg (by show ¬ m.body.l.length = 0; omega), if_neg (by simpa using h76), if_neg (by show ¬ (bndD (ls.map BS.l) num mk m.slot (sha m.body.l) (m.parts.ls.map BS.l) (startN m.reg)) < 0; omega)]
 rw [e]
 exact zX ((BindV.mk m.slot true (bndD (ls.map BS.l) num mk m.slot (sha m.body.l) (m.parts.ls.map BS.l) (startN m.reg)) (sha m.body.l) ⟨x84.a, x84.c, m.body.l⟩) : BindV) [_, _] Tryz.results30 ⟨⟨_, rfl, res_cellN rfl⟩, rfl, trivial⟩ rfl (fun w hw => (SB w hw : St w0 (row (.slice x84.a (m.body.l).length x84.c) 5 1 (bytesV (m.body.l)) :: H) w).addPure rfl)
end Go.Proofs.YtnijomppbgdmnaaGreat
