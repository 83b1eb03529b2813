/- Walk of package xfer: a world that comes. -/
import Derived.Test.YtnijomppbgdmnaaGreatSgP
import Derived.Test.YtnijomppbgdmnaaGreatYgRP
import Derived.Test.YtnijomppbgdmnaaGreatSuP
set_option linter.unusedSimpArgs false
set_option linter.unusedVariables false
namespace Go.Proofs.YtnijomppbgdmnaaGreat
section
open Go.RowKit Go.Sx
set_option maxRecDepth 100000
set_option maxHeartbeats 1000000
theorem zeroW_good : GoodW WorldV.zero := ⟨⟨0, by decide, rfl⟩, ⟨0, by decide, rfl⟩, fun i hi => z16_good i hi, fun i hi => by simp [ReplyV.zero, ResV.zero]⟩
theorem bodyG_good (l : List UInt8) : GoodW (bodyG l).2.1 := by
 unfold bodyG
 split
 · exact zeroW_good
 · exact worldG_good _
theorem bodyG_batch (l : List UInt8) : (bodyG l).2.2.length ≤ l.length := by
 unfold bodyG
 split
 · exact Nat.zero_le _
 · have := (rdText_bound (l.drop (rdText l 65536).2.2) 65536).2
   rw [List.length_drop] at this
   show (rdText (l.drop (rdText l 65536).2.2) 65536).2.1.length ≤ _
   omega
structure KeptOK (had : Int) (ks : List KeptV) : Prop where
 len : ks.length ≤ 16
 hash : ∀ k ∈ ks, k.hash = digW k.w
 num : ∀ k ∈ ks, k.last.n = k.w.slot
 good : ∀ k ∈ ks, GoodW k.w
 above : ∀ k ∈ ks, had < k.w.slot
 batch : ∀ k ∈ ks, k.last.batch.l.length ≤ 4294960000
 parts : ∀ k ∈ ks, k.last.parts.ls.length ≤ 16 ∧ ∀ z ∈ k.last.parts.ls, z.l.length ≤ 4294960000
theorem KeptOK.nil (had : Int) : KeptOK had [] := ⟨by decide, fun _ h => (by cases h), fun _ h => (by cases h), fun _ h => (by cases h), fun _ h => (by cases h), fun _ h => (by cases h), fun _ h => (by cases h)⟩
theorem mem_snoc {α : Type} {p : α → Prop} {l : List α} {x : α} (h : ∀ y ∈ l, p y) (hx : p x) : ∀ y ∈ l ++ [x], p y := fun y hy => by
 rcases List.mem_append.1 hy with h1 | h1
 · exact h y h1
 · rw [List.mem_singleton.1 h1]; exact hx
theorem KeptOK.snoc {had : Int} {ks : List KeptV} (h : KeptOK had ks) {k : KeptV} (hl : ks.length < 16) (h1 : k.hash = digW k.w) (h2 : k.last.n = k.w.slot) (h3 : GoodW k.w) (h4 : had < k.w.slot) (h5 : k.last.batch.l.length ≤ 4294960000) (h6 : k.last.parts.ls.length ≤ 16 ∧ ∀ z ∈ k.last.parts.ls, z.l.length ≤ 4294960000) : KeptOK had (ks ++ [k]) :=
 ⟨by rw [List.length_append]; simp; omega, mem_snoc h.hash h1, mem_snoc h.num h2, mem_snoc h.good h3, mem_snoc h.above h4, mem_snoc h.batch h5, mem_snoc h.parts h6⟩
theorem any_hash {ks : List KeptV} {h : Vector UInt8 32} (hh : ∀ k ∈ ks, k.hash = digW k.w) : (ks.map (·.w)).any (fun x => decide (digW x = h)) = ks.any (fun k => decide (k.hash = h)) := by
 induction ks with
 | nil => rfl
 | cons k ks ih =>
  rw [List.map_cons, List.any_cons, List.any_cons, ih (fun x hx => hh x (List.mem_cons_of_mem _ hx)), hh k (List.mem_cons_self ..)]
structure SNR where
 la : Option Addr
 lc : Nat
 ks : List KeptV
 fp : List Nat
 e : Int
attribute [local irreducible] sha cbE decidD worldG bodyG openOfK digW provE
theorem hasK_c {w0 : World} {H : List SA} {p : Nat} {h : Vector UInt8 32} [hm : Mem w0 H p (.cells (hlist h).toArray 32 (0, 0))] {x : KeptV} :
 CT Tryz.prog w0 (H) 43 [.agg x.cells, .pointer (some ⟨p, 0, none⟩)] (α := Unit) (fun _ => .bool (decide (x.hash = h))) (fun _ => H) := by
 refine CT_intro Tryz.func43 rfl Tryz.ntmps43 rfl (T2 (ze rfl (Ef_boxN rfl (fun b2 => ?_))))
 refine Qab rfl rfl (T4 (zy (zf 103 rfl rfl) (zy (zn rfl rfl) (zy (zn rfl rfl) (zy (Qt_agg_eql rfl rfl (by kernel_rfl)) (Qab rfl rfl (TX (zQ ?_))))))))
 exact zX () [_] Tryz.results43 ⟨rfl, trivial⟩ rfl SB
theorem indexK_c {w0 : World} {H : List SA} {p : Nat} {h : Vector UInt8 32} [hm : Mem w0 H p (.cells (hlist h).toArray 32 (0, 0))] {a : Option Addr} {c : Nat} {ks : List KeptV} [hr : RdC w0 H (.slice a ks.length c) 135 (ks.flatMap KeptV.list)] (hn : ks.length ≤ 1000) :
 CT Tryz.prog w0 (H) 82 [.slice a ks.length c, .func (.func 43) #[] #[.pointer (some ⟨p, 0, none⟩)]] (α := Int) (fun r => .int .i64 r) (fun r => pu ((r = -1 ∧ ks.any (fun k => decide (k.hash = h)) = false) ∨ (0 ≤ r ∧ ks.any (fun k => decide (k.hash = h)) = true)) :: H) := by
 refine CT_intro Tryz.func82 rfl Tryz.ntmps82 rfl (T2 (Qai rfl rfl (TX (zS (T2 (Qms rfl rfl (zy (zL rfl Tryz.underlying109) (Qmi rfl rfl (TX (zB ?_))))))))))
 refine T_loop [4, 5, 8, 9, 10, 11, 12, 13, 14, 15, 16, 17, 18] [8] (fun us H' => ∃ (k : Nat), us = [.int .i64 (k : Int)] ∧ H = H' ∧ k ≤ ks.length ∧ (∀ (j : Nat) (hj : j < ks.length), j < k → ks[j].hash ≠ h)) (fun us => match us with | .int _ i :: _ => ks.length - i.toNat | _ => 0) ⟨0, rfl, rfl, by omega, fun j hj h => by omega⟩ SB ?_
 rintro τ0 _ _  ⟨k, rfl, rfl, hk0, hno⟩ _
 refine T2 (zy (Qt_lss rfl rfl) (TX (zS (zC rfl (fun h9 => ?_) (fun h9 => ?_)))))
 ·
  have p9 := cL h9
  have hk : k < ks.length := by omega
  refine zk (zx (zS (zB (T2 (Qmi rfl rfl (Qai rfl rfl (T4 (zy (zm _ rfl) (Qms rfl rfl (Qmi rfl rfl (zy (Qt_indexN rfl rfl (by omega) (by omega)) (zy (Qt_val (Qt_loadRN 135 ks[k].list rfl (flat_slice _ 135 KeptV.list_len ks k hk) (KeptV.list_len _) (by decide)) (show Value.agg ks[k].list.toArray = Value.agg ks[k].cells from rfl)) (ze rfl (Ef_callF (argv := [_]) (caps := [_]) (hasK_c (p := p) (h := h) (x := ks[k])) rfl rfl (fun x16 => ?_)))))))))))))))
  refine TX (zC rfl (fun h16 => ?_) (fun h16 => ?_))
  ·
   have p16 := cL h16
   refine T2 (Qmi rfl rfl (Qai rfl rfl (TX (zQ (zb (zr (X_loop_ret (zb (zr ?_)))))))))
   exact zX (k : Int) [_] Tryz.results82 ⟨rfl, trivial⟩ rfl (fun w hw => (SB w hw : St w0 H w).addPure (.inr ⟨by omega, List.any_eq_true.2 ⟨_, List.getElem_mem hk, h16⟩⟩))
  have p16 := cL h16
  refine zk (X_block (zx (zR (zy (zj rfl rfl) (Qmi rfl rfl (zz ?_))))))
  apply X_loop
  case ha => exact zA
  case hI => exact ⟨k + 1, rfl, rfl, by omega, fun j hj h => by rcases Nat.lt_or_ge j k with h1 | h1; exact hno j hj h1; obtain rfl : j = k := (by omega); exact of_decide_eq_false h16⟩
  case hm => exact by show ks.length - (k + 1 : Int).toNat < ks.length - (k : Int).toNat; omega
  case hH => exact SB
 have p9 := cL h9
 refine zY (zG (zW (zE (zx (T2 (Qai rfl rfl (TX (zQ ?_))))))))
 exact zX (-1) [_] Tryz.results82 ⟨rfl, trivial⟩ rfl (fun w hw => (SB w hw : St w0 H w).addPure (.inl ⟨rfl, by rw [List.any_eq_false]; intro x hx; obtain ⟨j, hj, rfl⟩ := List.getElem_of_mem hx; simpa using hno j hj (by omega)⟩))
theorem containsK_c {w0 : World} {H : List SA} {p : Nat} {h : Vector UInt8 32} [hm : Mem w0 H p (.cells (hlist h).toArray 32 (0, 0))] {a : Option Addr} {c : Nat} {ks : List KeptV} [hr : RdC w0 H (.slice a ks.length c) 135 (ks.flatMap KeptV.list)] (hn : ks.length ≤ 1000) :
 CT Tryz.prog w0 (H) 42 [.slice a ks.length c, .func (.func 43) #[] #[.pointer (some ⟨p, 0, none⟩)]] (α := Unit) (fun _ => .bool (ks.any (fun k => decide (k.hash = h)))) (fun _ => H) := by
 refine CT_intro Tryz.func42 rfl Tryz.ntmps42 rfl (T2 (Qab rfl rfl (T4 (Qms rfl rfl (zy (zm _ rfl) (ze rfl (zc (indexK_c (p := p) (h := h) (ks := ks) hn) rfl (fun x7 => ?_))))))))
 refine TL_pure (fun h7 => ?_)
 have e : ks.any (fun k => decide (k.hash = h)) = decide (0 ≤ x7) := by
  rcases h7 with ⟨rfl, h8⟩ | ⟨h8, h9⟩
  · rw [h8]; rfl
  · rw [h9, decide_eq_true h8]
 refine zy (Qt_geq rfl rfl) (Qab rfl rfl (TX (zQ ?_)))
 rw [e]
 exact zX () [_] Tryz.results42 ⟨rfl, trivial⟩ rfl SB
theorem snapX_c {w0 : World} {H : List SA} {p : Nat} {num : Int} {mk : Nat} (hmk : mk < 65536) {had : Int} {mr wr : Option Nat} {la : Option Addr} {lc : Nat} {ks : List KeptV} {fp : List Nat} {sa : Option Addr} {sc : Nat} {ls : List BS} [rk : RdC w0 H (.slice sa ls.length sc) 1 (ls.map BS.val)] [rke : RdE w0 H ls] (hkl : ∀ x ∈ ls, x.l.length ≤ 4294967000) {ra : Option Addr} {rq : Nat} {rs : List (Vector UInt8 32)} [hrr : RdC w0 H (.slice ra rs.length rq) 32 (rs.flatMap hlist)] (hrs : rs.length ≤ 1000) (hK : KeptOK had ks) {a : Option Addr} {l : List UInt8} {c : Nat} [hr : RdB w0 H (.slice a l.length c) l] (hl : l.length ≤ 4294960000) :
 CT Tryz.prog w0 (blk p (.cells (FetchV.mk (KeysV.mk ⟨sa, sc, ls⟩ ⟨ra, rs.length, rq⟩) (ViewV.mk num (mk : Int)) had mr wr ⟨la, ks.length, lc⟩).cells 111 (0, 0)) :: row (.slice la (ks).length lc) 119 135 ((ks).flatMap KeptV.list) :: dat fp ⟨(ks).map (fun k => k.last.batch), (ks).map (fun k => k.last.parts), []⟩ :: H) 15 [.pointer (some ⟨p, 0, none⟩), .slice a l.length c] (α := SNR) (fun y => .int .i64 y.e) (fun y => pu (y.ks.map (·.w) = stepW (ls.map BS.l) rs mk had (ks.map (·.w)) l ∧ KeptOK had y.ks) :: blk p (.cells (FetchV.mk (KeysV.mk ⟨sa, sc, ls⟩ ⟨ra, rs.length, rq⟩) (ViewV.mk num (mk : Int)) had mr wr ⟨y.la, y.ks.length, y.lc⟩).cells 111 (0, 0)) :: row (.slice y.la (y.ks).length y.lc) 119 135 ((y.ks).flatMap KeptV.list) :: dat y.fp ⟨(y.ks).map (fun k => k.last.batch), (y.ks).map (fun k => k.last.parts), []⟩ :: H) := by
 refine CT_intro Tryz.func15 rfl Tryz.ntmps15 rfl (T2 (Qai rfl rfl (TX (zS (T2 (zy (zm (.pointer _) rfl) (zy (Qt_ptr_nil rfl rfl Tryz.underlying48) (TX (T_cond_false rfl (by first | rfl | decide) (zk (zx ?_)))))))))))
 refine T_cut [5, 6, 13, 14, 15, 16, 17, 18, 19, 20, 21, 22, 23, 24, 25] [5, 6] (fun us H' => ∃ (b5 : Nat) (x23 : MsgV × List Nat), us = [.pointer (some ⟨b5, 0, none⟩), .int .i64 (openOfK (ls.map BS.l) mk l).1] ∧ blk b5 (.cells x23.1.cells 82 (0, 0)) :: dat x23.2 (Deep.leads x23.1) :: blk p (.cells (FetchV.mk (KeysV.mk ⟨sa, sc, ls⟩ ⟨ra, rs.length, rq⟩) (ViewV.mk num (mk : Int)) had mr wr ⟨la, ks.length, lc⟩).cells 111 (0, 0)) :: row (.slice la (ks).length lc) 119 135 ((ks).flatMap KeptV.list) :: dat fp ⟨(ks).map (fun k => k.last.batch), (ks).map (fun k => k.last.parts), []⟩ :: H = H' ∧ x23.1.abs = (openOfK (ls.map BS.l) mk l).2) ?_ ?_
 ·
  refine T_drawF (blk p (.cells (FetchV.mk (KeysV.mk ⟨sa, sc, ls⟩ ⟨ra, rs.length, rq⟩) (ViewV.mk num (mk : Int)) had mr wr ⟨la, ks.length, lc⟩).cells 111 (0, 0)) :: H) (by kernel_rfl) SB (zI (i := 0) rfl (zm (.pointer _) rfl) (zI (i := 1) rfl (Qt_nilCheck rfl) (zI (i := 2) rfl (zf 0 rfl rfl) (zI (i := 3) rfl (zn rfl rfl) (zI (i := 4) rfl (zm (.pointer _) rfl) ?_)))))
  refine zI (i := 5) rfl (Qt_nilCheck rfl) (zI (i := 6) rfl (zf 2 rfl rfl) (zI (i := 7) rfl (zn rfl rfl) (zI (i := 8) rfl (zm (.slice _ _ _) rfl) (DLF_2 (i := 9) (j := 13) (by kernel_rfl) ?_ ?_))))
  ·
   refine DLS_e rfl rfl (zc (openOf_c (num := num) (mk := mk) hmk (sa := sa) (sc := sc) (ls := ls) (rt := ⟨ra, rs.length, rq⟩) hkl (a := a) (l := l) (c := c) (hr := inferInstance) hl) rfl (fun x23 => ⟨SB, ?_⟩))
   refine DLF_pure (fun h23 => ?_)
   refine zI (i := 10) rfl (zm (.tuple _) rfl) (zI (i := 11) rfl (Qt_extract rfl) (zI (i := 12) rfl (Qt_extract rfl) (zV (i := 13) (DLS_e rfl rfl (Ef_allocN (fun b5 => ⟨SB, ?_⟩))))))
   refine zV (i := 14) (DLS_n rfl (zs rfl rfl (⟨SB, (zI (i := 15) rfl (za (.int .i64 _) rfl) (DLF_nil (by kernel_rfl) ?_))⟩)))
   refine X_cut _ zA (⟨b5, x23, rfl, rfl, h23⟩) (SB)
  refine DLS_e rfl rfl (Ef_allocN (fun b5 => ⟨SB, ?_⟩))
  refine zV (i := 9) (DLS_e rfl rfl (zc (openOf_c (num := num) (mk := mk) hmk (sa := sa) (sc := sc) (ls := ls) (rt := ⟨ra, rs.length, rq⟩) hkl (a := a) (l := l) (c := c) (hr := inferInstance) hl) rfl (fun x23 => ⟨SB, ?_⟩)))
  refine DLF_pure (fun h23 => ?_)
  refine zI (i := 10) rfl (zm (.tuple _) rfl) (zI (i := 11) rfl (Qt_extract rfl) (zI (i := 12) rfl (Qt_extract rfl) (zV (i := 14) (DLS_n rfl (zs rfl rfl (⟨SB, (zI (i := 15) rfl (za (.int .i64 _) rfl) (DLF_nil (by kernel_rfl) ?_))⟩))))))
  refine X_cut _ zA (⟨b5, x23, rfl, rfl, h23⟩) (SB)
 rintro τc0 _ _ ⟨b5, x23, rfl, rfl, h23⟩ _
 have hkd : x23.1.kind = (openOfK (ls.map BS.l) mk l).2.kind := congrArg MsgD.kind h23
 have hsl : x23.1.slot = (openOfK (ls.map BS.l) mk l).2.slot := congrArg MsgD.slot h23
 have hhs : x23.1.hash = (openOfK (ls.map BS.l) mk l).2.hash := congrArg MsgD.hash h23
 have hbd : (openOfK (ls.map BS.l) mk l).2.body = x23.1.body.l := (congrArg MsgD.body h23).symm
 have hs2 := openOfK_small2 (ls.map BS.l) mk l
 rw [← h23] at hs2
 have hmbl : x23.1.body.l.length ≤ 4294960000 := Nat.le_trans hs2.1 hl
 have hmps : ∀ x ∈ x23.1.parts.ls, x.l.length ≤ 4294960000 := fun x hx => Nat.le_trans (hs2.2.1 x.l (List.mem_map.2 ⟨x, hx, rfl⟩)) hl
 have hmpn : x23.1.parts.ls.length ≤ 16 := by have := hs2.2.2; rwa [show x23.1.abs.parts = x23.1.parts.ls.map BS.l from rfl, List.length_map] at this
 refine zS (zB (T2 (Qmi rfl rfl (zy (Qt_neq rfl rfl) (Qab rfl rfl (TX (zC rfl (fun h26 => ?_) (fun h26 => ?_))))))))
 ·
  have p26 := cL h26
  refine T2 (Qmi rfl rfl (Qai rfl rfl (TX (zQ (zb (zr ?_))))))
  have e : snapW (ls.map BS.l) rs mk had l = none := by unfold snapW; rw [if_pos (by simpa using h26)]
  exact zX (⟨la, lc, ks, fp, (openOfK (ls.map BS.l) mk l).1⟩ : SNR) [_] Tryz.results15 ⟨rfl, trivial⟩ rfl (fun w hw => (SB w hw : St w0 (blk p (.cells (FetchV.mk (KeysV.mk ⟨sa, sc, ls⟩ ⟨ra, rs.length, rq⟩) (ViewV.mk num (mk : Int)) had mr wr ⟨la, ks.length, lc⟩).cells 111 (0, 0)) :: row (.slice la (ks).length lc) 119 135 ((ks).flatMap KeptV.list) :: dat fp ⟨(ks).map (fun k => k.last.batch), (ks).map (fun k => k.last.parts), []⟩ :: H) w).addPure ⟨by rw [stepW_none e], hK⟩)
 have p26 := cL h26
 have hz : (openOfK (ls.map BS.l) mk l).1 = 0 := by simpa using h26
 refine T2 (zy (zf 0 rfl rfl) (zy (zl rfl) (zy (Qt_neq rfl rfl) (Qab rfl rfl (TX (zC rfl (fun h30 => ?_) (fun h30 => ?_)))))))
 ·
  have p30 := cL h30
  refine T2 (Qai rfl rfl (TX (zQ (zb (zr ?_)))))
  have e : snapW (ls.map BS.l) rs mk had l = none := by unfold snapW; rw [if_neg (by omega), if_pos (by rw [← hkd]; simpa using h30)]
  exact zX (⟨la, lc, ks, fp, 15⟩ : SNR) [_] Tryz.results15 ⟨rfl, trivial⟩ rfl (fun w hw => (SB w hw : St w0 (blk p (.cells (FetchV.mk (KeysV.mk ⟨sa, sc, ls⟩ ⟨ra, rs.length, rq⟩) (ViewV.mk num (mk : Int)) had mr wr ⟨la, ks.length, lc⟩).cells 111 (0, 0)) :: row (.slice la (ks).length lc) 119 135 ((ks).flatMap KeptV.list) :: dat fp ⟨(ks).map (fun k => k.last.batch), (ks).map (fun k => k.last.parts), []⟩ :: H) w).addPure ⟨by rw [stepW_none e], hK⟩)
 have p30 := cL h30
 have hk11 : (openOfK (ls.map BS.l) mk l).2.kind = 11 := by rw [← hkd]; simpa using h30
 refine zk (X_block (zx (T2 (zy (zf 37 rfl rfl) (zy (zl rfl) (ze rfl (zc (bodyE_c (a := x23.1.body.a) (l := x23.1.body.l) (c := x23.1.body.c) (by omega)) rfl (fun x37 => ?_))))))))
 have hgw := bodyG_good x23.1.body.l
 have hbb := bodyG_batch x23.1.body.l
 obtain ⟨m2, hm2l, hm2e⟩ := hgw.was
 have hm2 : (bodyG x23.1.body.l).2.1.was.mask.toNat < 65536 := by rw [hm2e]; exact hm2l
 have hm2c : (((bodyG x23.1.body.l).2.1.was.mask.toNat : Nat) : Int) = (bodyG x23.1.body.l).2.1.was.mask := by rw [hm2e]; rfl
 refine zy (zm (.tuple _) rfl) (zy (Qt_extract rfl) (zy (Qt_extract rfl) (zy (Qt_extract rfl) (ze rfl (Ef_allocN (fun b7 => ?_))))))
 refine zN (zs rfl rfl (Qas rfl rfl (Qai rfl rfl (TX (zS (zB (T2 (Qmi rfl rfl (zy (Qt_neq rfl rfl) (Qab rfl rfl (TX (zC rfl (fun h41 => ?_) (fun h41 => ?_)))))))))))))
 ·
  have p41 := cL h41
  refine T2 (Qmi rfl rfl (Qai rfl rfl (TX (zQ (zb (zr ?_))))))
  have e : snapW (ls.map BS.l) rs mk had l = none := by unfold snapW; rw [if_neg (by omega), if_neg (by omega), hbd, if_pos (by simpa using h41)]
  exact zX (⟨la, lc, ks, fp, (bodyG x23.1.body.l).1⟩ : SNR) [_] Tryz.results15 ⟨rfl, trivial⟩ rfl (fun w hw => (SB w hw : St w0 (blk p (.cells (FetchV.mk (KeysV.mk ⟨sa, sc, ls⟩ ⟨ra, rs.length, rq⟩) (ViewV.mk num (mk : Int)) had mr wr ⟨la, ks.length, lc⟩).cells 111 (0, 0)) :: row (.slice la (ks).length lc) 119 135 ((ks).flatMap KeptV.list) :: dat fp ⟨(ks).map (fun k => k.last.batch), (ks).map (fun k => k.last.parts), []⟩ :: H) w).addPure ⟨by rw [stepW_none e], hK⟩)
 have p41 := cL h41
 refine T2 (zy (zf 0 rfl rfl) (zy (zl rfl) (zy (zf 4 rfl rfl) (zy (zl rfl) (zy (Qt_neq rfl rfl) (Qab rfl rfl (TX (zC rfl (fun h45 => ?_) (fun h45 => ?_)))))))))
 ·
  have p45 := cL h45
  refine T2 (Qai rfl rfl (TX (zQ (zb (zr ?_)))))
  have e : snapW (ls.map BS.l) rs mk had l = none := by unfold snapW; rw [if_neg (by omega), if_neg (by omega), hbd, if_neg (by simpa using h41), if_pos (by rw [← hsl]; simpa using h45)]
  exact zX (⟨la, lc, ks, fp, 8⟩ : SNR) [_] Tryz.results15 ⟨rfl, trivial⟩ rfl (fun w hw => (SB w hw : St w0 (blk p (.cells (FetchV.mk (KeysV.mk ⟨sa, sc, ls⟩ ⟨ra, rs.length, rq⟩) (ViewV.mk num (mk : Int)) had mr wr ⟨la, ks.length, lc⟩).cells 111 (0, 0)) :: row (.slice la (ks).length lc) 119 135 ((ks).flatMap KeptV.list) :: dat fp ⟨(ks).map (fun k => k.last.batch), (ks).map (fun k => k.last.parts), []⟩ :: H) w).addPure ⟨by rw [stepW_none e], hK⟩)
 have p45 := cL h45
 refine zS (zD (blk b5 (.cells x23.1.cells 82 (0, 0)) :: blk p (.cells (FetchV.mk (KeysV.mk ⟨sa, sc, ls⟩ ⟨ra, rs.length, rq⟩) (ViewV.mk num (mk : Int)) had mr wr ⟨la, ks.length, lc⟩).cells 111 (0, 0)) :: H) [(0, true), (1, true), (2, true), (3, true), (4, true), (5, true), (6, true), (7, true)] SB (fun hns1 => ?_))
 refine zd hns1 rfl (zf 4 rfl rfl) rfl (zd hns1 rfl (zl rfl) rfl (zd hns1 rfl (zm (.pointer _) rfl) rfl (zd hns1 rfl (Qt_nilCheck rfl) rfl (zd hns1 rfl (zf 4 rfl rfl) rfl (zd hns1 rfl (zl rfl) rfl (zd hns1 rfl (Qt_leq rfl rfl) rfl (zd hns1 rfl (za (.bool _) rfl) rfl (DL_nil (zx (zC rfl (fun h51 => ?_) (fun h51 => ?_)))))))))))
 ·
  have p51 := cL h51
  refine T2 (Qai rfl rfl (TX (zQ (zb (zr ?_)))))
  have e : snapW (ls.map BS.l) rs mk had l = none := by unfold snapW; rw [if_neg (by omega), if_neg (by omega), hbd, if_neg (by simpa using h41), if_neg (by rw [← hsl]; simpa using h45), if_pos (by rw [← hsl]; omega)]
  exact zX (⟨la, lc, ks, fp, 7⟩ : SNR) [_] Tryz.results15 ⟨rfl, trivial⟩ rfl (fun w hw => (SB w hw : St w0 (blk p (.cells (FetchV.mk (KeysV.mk ⟨sa, sc, ls⟩ ⟨ra, rs.length, rq⟩) (ViewV.mk num (mk : Int)) had mr wr ⟨la, ks.length, lc⟩).cells 111 (0, 0)) :: row (.slice la (ks).length lc) 119 135 ((ks).flatMap KeptV.list) :: dat fp ⟨(ks).map (fun k => k.last.batch), (ks).map (fun k => k.last.parts), []⟩ :: H) w).addPure ⟨by rw [stepW_none e], hK⟩)
 have p51 := cL h51
 refine zk (X_block (zx ?_))
 refine T_cut [6, 9, 59, 60, 61, 62, 63, 64, 65, 66, 67, 68, 69, 70] [9, 6] (fun us H' => ∃ (b9 : Nat) (x68 : SlotR), us = [.pointer (some ⟨b9, 0, none⟩), .int .i64 (provE (ls.map BS.l) rs (bodyG x23.1.body.l).2.1.was.num (bodyG x23.1.body.l).2.1.was.mask.toNat x23.1.abs (bodyG x23.1.body.l).2.2)] ∧ blk b9 (.cells x68.s.cells 69 (0, 0)) :: dat x68.fp x68.ld :: blk b7 (.cells (bodyG x23.1.body.l).2.1.cells 67 (0, 0)) :: blk p (.cells (FetchV.mk (KeysV.mk ⟨sa, sc, ls⟩ ⟨ra, rs.length, rq⟩) (ViewV.mk num (mk : Int)) had mr wr ⟨la, ks.length, lc⟩).cells 111 (0, 0)) :: row (.slice la (ks).length lc) 119 135 ((ks).flatMap KeptV.list) :: dat fp ⟨(ks).map (fun k => k.last.batch), (ks).map (fun k => k.last.parts), []⟩ :: H = H' ∧ ((provE (ls.map BS.l) rs (bodyG x23.1.body.l).2.1.was.num (bodyG x23.1.body.l).2.1.was.mask.toNat x23.1.abs (bodyG x23.1.body.l).2.2) = 0 → x68.ld = ⟨[x68.s.batch], [x68.s.parts], []⟩ ∧ x68.s.n = x23.1.slot ∧ x68.s.batch.l.length ≤ 4294960000 ∧ x68.s.parts.ls.length ≤ 16 ∧ ∀ z ∈ x68.s.parts.ls, z.l.length ≤ 4294960000)) ?_ ?_
 ·
  refine T_drawF (blk b5 (.cells x23.1.cells 82 (0, 0)) :: blk b7 (.cells (bodyG x23.1.body.l).2.1.cells 67 (0, 0)) :: blk p (.cells (FetchV.mk (KeysV.mk ⟨sa, sc, ls⟩ ⟨ra, rs.length, rq⟩) (ViewV.mk num (mk : Int)) had mr wr ⟨la, ks.length, lc⟩).cells 111 (0, 0)) :: H) (by kernel_rfl) SB (zI (i := 0) rfl (zm (.pointer _) rfl) (zI (i := 1) rfl (Qt_nilCheck rfl) (zI (i := 2) rfl (zf 0 rfl rfl) (zI (i := 3) rfl (zn rfl rfl) (zI (i := 4) rfl (zf 4 rfl rfl) ?_)))))
  refine zI (i := 5) rfl (Qt_val (zn rfl rfl) (show Value.agg (bodyG x23.1.body.l).2.1.was.cells = Value.agg (ViewV.mk (bodyG x23.1.body.l).2.1.was.num (((bodyG x23.1.body.l).2.1.was.mask.toNat : Nat) : Int)).cells from by rw [hm2c])) (zI (i := 6) rfl (zn rfl rfl) (zI (i := 7) rfl (zm (.slice _ _ _) rfl) (DLF_2 (i := 8) (j := 12) (by kernel_rfl) ?_ ?_)))
  ·
   refine DLS_e rfl rfl (zc (proved_c (num := (bodyG x23.1.body.l).2.1.was.num) (mk := (bodyG x23.1.body.l).2.1.was.mask.toNat) hm2 (sa := sa) (sc := sc) (ls := ls) hkl (ra := ra) (rq := rq) (rs := rs) hrs (m := x23.1) hmps hmpn (ba := x37.a) (b := (bodyG x23.1.body.l).2.2) (bc := x37.c) (by omega)) rfl (fun x68 => ⟨SB, ?_⟩))
   refine DLF_pure (fun h68 => ?_)
   refine zI (i := 9) rfl (zm (.tuple _) rfl) (zI (i := 10) rfl (Qt_extract rfl) (zI (i := 11) rfl (Qt_extract rfl) (zV (i := 12) (DLS_e rfl rfl (Ef_allocN (fun b9 => ⟨SB, ?_⟩))))))
   refine zV (i := 13) (DLS_n rfl (zs rfl rfl (⟨SB, (zI (i := 14) rfl (za (.int .i64 _) rfl) (DLF_nil (by kernel_rfl) ?_))⟩)))
   refine X_cut _ zA (⟨b9, x68, rfl, rfl, h68⟩) (SB)
  refine DLS_e rfl rfl (Ef_allocN (fun b9 => ⟨SB, ?_⟩))
  refine zV (i := 8) (DLS_e rfl rfl (zc (proved_c (num := (bodyG x23.1.body.l).2.1.was.num) (mk := (bodyG x23.1.body.l).2.1.was.mask.toNat) hm2 (sa := sa) (sc := sc) (ls := ls) hkl (ra := ra) (rq := rq) (rs := rs) hrs (m := x23.1) hmps hmpn (ba := x37.a) (b := (bodyG x23.1.body.l).2.2) (bc := x37.c) (by omega)) rfl (fun x68 => ⟨SB, ?_⟩)))
  refine DLF_pure (fun h68 => ?_)
  refine zI (i := 9) rfl (zm (.tuple _) rfl) (zI (i := 10) rfl (Qt_extract rfl) (zI (i := 11) rfl (Qt_extract rfl) (zV (i := 13) (DLS_n rfl (zs rfl rfl (⟨SB, (zI (i := 14) rfl (za (.int .i64 _) rfl) (DLF_nil (by kernel_rfl) ?_))⟩))))))
  refine X_cut _ zA (⟨b9, x68, rfl, rfl, h68⟩) (SB)
 rintro τc2 _ _ ⟨b9, x68, rfl, rfl, h68⟩ _
 refine zS (T2 (Qmi rfl rfl (zy (Qt_neq rfl rfl) (TX (zC rfl (fun h72 => ?_) (fun h72 => ?_))))))
 ·
  have p72 := cL h72
  refine T2 (Qmi rfl rfl (Qai rfl rfl (TX (zQ (zr ?_)))))
  have e : snapW (ls.map BS.l) rs mk had l = none := by unfold snapW; rw [if_neg (by omega), if_neg (by omega), hbd, if_neg (by simpa using h41), if_neg (by rw [← hsl]; simpa using h45), if_neg (by rw [← hsl]; omega), if_pos (by rw [← h23]; simpa using h72)]
  exact zX (⟨la, lc, ks, fp, (provE (ls.map BS.l) rs (bodyG x23.1.body.l).2.1.was.num (bodyG x23.1.body.l).2.1.was.mask.toNat x23.1.abs (bodyG x23.1.body.l).2.2)⟩ : SNR) [_] Tryz.results15 ⟨rfl, trivial⟩ rfl (fun w hw => (SB w hw : St w0 (blk p (.cells (FetchV.mk (KeysV.mk ⟨sa, sc, ls⟩ ⟨ra, rs.length, rq⟩) (ViewV.mk num (mk : Int)) had mr wr ⟨la, ks.length, lc⟩).cells 111 (0, 0)) :: row (.slice la (ks).length lc) 119 135 ((ks).flatMap KeptV.list) :: dat fp ⟨(ks).map (fun k => k.last.batch), (ks).map (fun k => k.last.parts), []⟩ :: H) w).addPure ⟨by rw [stepW_none e], hK⟩)
 have p72 := cL h72
 have hp0 : (provE (ls.map BS.l) rs (bodyG x23.1.body.l).2.1.was.num (bodyG x23.1.body.l).2.1.was.mask.toNat x23.1.abs (bodyG x23.1.body.l).2.2) = 0 := by simpa using h72
 obtain ⟨hld, hln, hlb, hlp, hle⟩ := h68 hp0
 have hsome : snapW (ls.map BS.l) rs mk had l = some (bodyG x23.1.body.l).2.1 := by unfold snapW; rw [if_neg (by omega), if_neg (by omega), hbd, if_neg (by simpa using h41), if_neg (by rw [← hsl]; simpa using h45), if_neg (by rw [← hsl]; omega), if_neg (by rw [← h23]; omega)]
 have hah := any_hash (ks := ks) (h := digW (bodyG x23.1.body.l).2.1) hK.hash
 refine S4 (zy (zn rfl rfl) (ze rfl (zc (digestW_c hgw) rfl (fun x75 => ?_))))
 refine ze rfl (Ef_allocN (fun b10 => ?_))
 refine zN (zs rfl rfl (TX (zS (zB (T2 (zy (zm (.pointer _) rfl) (zy (Qt_nilCheck rfl) (zy (zf 7 rfl rfl) (zy (zl rfl) (zy (Qt_makeFunc (args := [.pointer _]) rfl) (ze rfl (zc (containsK_c (p := b10) (h := digW (bodyG x23.1.body.l).2.1) (ks := ks) (by have := hK.len; omega)) rfl (fun x82 => ?_)))))))))))))
 refine Qab rfl rfl (TX (zC rfl (fun h76 => ?_) (fun h76 => ?_)))
 ·
  have p76 := cL h76
  rw [show ks.any (fun k => decide (k.hash = digW (bodyG x23.1.body.l).2.1)) = true from h76] at hah
  refine T2 (Qai rfl rfl (TX (zQ (zb (zr ?_)))))
  have e : snapW (ls.map BS.l) rs mk had l = some (bodyG x23.1.body.l).2.1 := hsome
  exact zX (⟨la, lc, ks, fp, 7⟩ : SNR) [_] Tryz.results15 ⟨rfl, trivial⟩ rfl (fun w hw => (SB w hw : St w0 (blk p (.cells (FetchV.mk (KeysV.mk ⟨sa, sc, ls⟩ ⟨ra, rs.length, rq⟩) (ViewV.mk num (mk : Int)) had mr wr ⟨la, ks.length, lc⟩).cells 111 (0, 0)) :: row (.slice la (ks).length lc) 119 135 ((ks).flatMap KeptV.list) :: dat fp ⟨(ks).map (fun k => k.last.batch), (ks).map (fun k => k.last.parts), []⟩ :: H) w).addPure ⟨by rw [stepW_some e, pushW_old hah], hK⟩)
 have p76 := cL h76
 rw [show ks.any (fun k => decide (k.hash = digW (bodyG x23.1.body.l).2.1)) = false from h76] at hah
 refine T2 (zy (zm (.pointer _) rfl) (zy (Qt_nilCheck rfl) (zy (zf 7 rfl rfl) (zy (zl rfl) (zy (zL rfl Tryz.underlying109) (zy (Qt_geq rfl rfl) (Qab rfl rfl (TX (zC rfl (fun h83 => ?_) (fun h83 => ?_))))))))))
 ·
  have p83 := cL h83
  refine T2 (Qai rfl rfl (TX (zQ (zb (zr ?_)))))
  have e : snapW (ls.map BS.l) rs mk had l = some (bodyG x23.1.body.l).2.1 := hsome
  exact zX (⟨la, lc, ks, fp, 4⟩ : SNR) [_] Tryz.results15 ⟨rfl, trivial⟩ rfl (fun w hw => (SB w hw : St w0 (blk p (.cells (FetchV.mk (KeysV.mk ⟨sa, sc, ls⟩ ⟨ra, rs.length, rq⟩) (ViewV.mk num (mk : Int)) had mr wr ⟨la, ks.length, lc⟩).cells 111 (0, 0)) :: row (.slice la (ks).length lc) 119 135 ((ks).flatMap KeptV.list) :: dat fp ⟨(ks).map (fun k => k.last.batch), (ks).map (fun k => k.last.parts), []⟩ :: H) w).addPure ⟨by rw [stepW_some e, pushW_full (by rw [List.length_map]; omega)], hK⟩)
 have p83 := cL h83
 have hlt : ks.length < 16 := by omega
 refine zk (X_block (zx (zS ?_)))
 refine T_drawF (blk b7 (.cells (bodyG x23.1.body.l).2.1.cells 67 (0, 0)) :: blk b9 (.cells x68.s.cells 69 (0, 0)) :: blk b10 (.cells (hlist (digW (bodyG x23.1.body.l).2.1)).toArray 32 (0, 0)) :: H) (by kernel_rfl) SB (zI (i := 0) rfl (zm (.pointer _) rfl) (zI (i := 1) rfl (zm (.pointer _) rfl) (zI (i := 2) rfl (Qt_nilCheck rfl) (zI (i := 3) rfl (zf 7 rfl rfl) (zI (i := 5) rfl (zn rfl rfl) ?_)))))
 refine zI (i := 6) rfl (zn rfl rfl) (zI (i := 7) rfl (zn rfl rfl) (zI (i := 8) rfl (Qt_val (zw [(0, .agg _), (1, .agg _), (2, .agg _)] rfl) (show _ = Value.agg (KeptV.mk (bodyG x23.1.body.l).2.1 x68.s (digW (bodyG x23.1.body.l).2.1)).cells from rfl)) (DLF_2 (i := 4) (j := 9) (by kernel_rfl) ?_ ?_)))
 ·
  refine DLS_e rfl rfl (Ef_of_Qt (zl rfl) ⟨SB, (zV (i := 9) (DLS_e rfl rfl (Ef_sliceN (m := ([(KeptV.mk (bodyG x23.1.body.l).2.1 x68.s (digW (bodyG x23.1.body.l).2.1))] : List KeptV).length) [.agg ((KeptV.mk (bodyG x23.1.body.l).2.1 x68.s (digW (bodyG x23.1.body.l).2.1))).cells] (([(KeptV.mk (bodyG x23.1.body.l).2.1 x68.s (digW (bodyG x23.1.body.l).2.1))] : List KeptV).flatMap KeptV.list) rfl rfl rfl rfl (by simp [Value.cells, KeptV.size]) rfl rfl (fun a99 c99 => ⟨SB, ?_⟩))))⟩)
  refine zV (i := 10) (DLS_e rfl rfl (Ef_appendS KeptV.list (sv := .slice _ _ _) (xv := .slice _ _ _) (xs := ks) (ys := [(KeptV.mk (bodyG x23.1.body.l).2.1 x68.s (digW (bodyG x23.1.body.l).2.1))]) KeptV.list_len KeptV.list_one rfl rfl (by simp; omega) rfl rfl (fun a100 c100 => ⟨SB, ?_⟩)))
  refine zI (i := 11) rfl (Qt_nilCheck rfl) (zI (i := 12) rfl (zf 7 rfl rfl) (zV (i := 13) (DLS_n rfl (Ef_store1 (.slice _ _ _) rfl rfl (⟨SB, (DLF_nil (by kernel_rfl) (zx (T2 (Qai rfl rfl (TX (zQ ?_))))))⟩)))))
  have hws : (bodyG x23.1.body.l).2.1.slot = x23.1.slot := by simpa using h45
  have hok : KeptOK had (ks ++ [(KeptV.mk (bodyG x23.1.body.l).2.1 x68.s (digW (bodyG x23.1.body.l).2.1))]) := hK.snoc hlt rfl (by show x68.s.n = (bodyG x23.1.body.l).2.1.slot; omega) hgw (by show had < (bodyG x23.1.body.l).2.1.slot; omega) hlb ⟨hlp, hle⟩
  exact zX (⟨a100, c100, ks ++ [(KeptV.mk (bodyG x23.1.body.l).2.1 x68.s (digW (bodyG x23.1.body.l).2.1))], fp ++ x68.fp, 0⟩ : SNR) [_] Tryz.results15 ⟨rfl, trivial⟩ rfl (fun w hw => by
   have h1 : St w0 (dat fp ⟨(ks).map (fun k => k.last.batch), (ks).map (fun k => k.last.parts), []⟩ :: dat x68.fp x68.ld :: blk p (.cells (FetchV.mk (KeysV.mk ⟨sa, sc, ls⟩ ⟨ra, rs.length, rq⟩) (ViewV.mk num (mk : Int)) had mr wr ⟨a100, (ks ++ [(KeptV.mk (bodyG x23.1.body.l).2.1 x68.s (digW (bodyG x23.1.body.l).2.1))]).length, c100⟩).cells 111 (0, 0)) :: row (.slice a100 (ks ++ [(KeptV.mk (bodyG x23.1.body.l).2.1 x68.s (digW (bodyG x23.1.body.l).2.1))]).length c100) 119 135 ((ks ++ [(KeptV.mk (bodyG x23.1.body.l).2.1 x68.s (digW (bodyG x23.1.body.l).2.1))]).flatMap KeptV.list) :: H) w := SB w hw
   rw [hld] at h1
   have h2 : St w0 (dat (fp ++ x68.fp) ⟨(ks ++ [(KeptV.mk (bodyG x23.1.body.l).2.1 x68.s (digW (bodyG x23.1.body.l).2.1))]).map (fun k => k.last.batch), (ks ++ [(KeptV.mk (bodyG x23.1.body.l).2.1 x68.s (digW (bodyG x23.1.body.l).2.1))]).map (fun k => k.last.parts), []⟩ :: blk p (.cells (FetchV.mk (KeysV.mk ⟨sa, sc, ls⟩ ⟨ra, rs.length, rq⟩) (ViewV.mk num (mk : Int)) had mr wr ⟨a100, (ks ++ [(KeptV.mk (bodyG x23.1.body.l).2.1 x68.s (digW (bodyG x23.1.body.l).2.1))]).length, c100⟩).cells 111 (0, 0)) :: row (.slice a100 (ks ++ [(KeptV.mk (bodyG x23.1.body.l).2.1 x68.s (digW (bodyG x23.1.body.l).2.1))]).length c100) 119 135 ((ks ++ [(KeptV.mk (bodyG x23.1.body.l).2.1 x68.s (digW (bodyG x23.1.body.l).2.1))]).flatMap KeptV.list) :: H) w := by
    rw [List.map_append, List.map_append]; exact h1.datAdd
   exact (Subs.st inferInstance w h2 : St w0 (blk p (.cells (FetchV.mk (KeysV.mk ⟨sa, sc, ls⟩ ⟨ra, rs.length, rq⟩) (ViewV.mk num (mk : Int)) had mr wr ⟨a100, (ks ++ [(KeptV.mk (bodyG x23.1.body.l).2.1 x68.s (digW (bodyG x23.1.body.l).2.1))]).length, c100⟩).cells 111 (0, 0)) :: row (.slice a100 (ks ++ [(KeptV.mk (bodyG x23.1.body.l).2.1 x68.s (digW (bodyG x23.1.body.l).2.1))]).length c100) 119 135 ((ks ++ [(KeptV.mk (bodyG x23.1.body.l).2.1 x68.s (digW (bodyG x23.1.body.l).2.1))]).flatMap KeptV.list) :: dat (fp ++ x68.fp) ⟨(ks ++ [(KeptV.mk (bodyG x23.1.body.l).2.1 x68.s (digW (bodyG x23.1.body.l).2.1))]).map (fun k => k.last.batch), (ks ++ [(KeptV.mk (bodyG x23.1.body.l).2.1 x68.s (digW (bodyG x23.1.body.l).2.1))]).map (fun k => k.last.parts), []⟩ :: H) w).addPure ⟨by rw [stepW_some hsome, pushW_new hah (by rw [List.length_map]; exact hlt), List.map_append]; rfl, hok⟩)
 refine DLS_e rfl rfl (Ef_sliceN (m := ([(KeptV.mk (bodyG x23.1.body.l).2.1 x68.s (digW (bodyG x23.1.body.l).2.1))] : List KeptV).length) [.agg ((KeptV.mk (bodyG x23.1.body.l).2.1 x68.s (digW (bodyG x23.1.body.l).2.1))).cells] (([(KeptV.mk (bodyG x23.1.body.l).2.1 x68.s (digW (bodyG x23.1.body.l).2.1))] : List KeptV).flatMap KeptV.list) rfl rfl rfl rfl (by simp [Value.cells, KeptV.size]) rfl rfl (fun a99 c99 => ⟨SB, ?_⟩))
 refine zV (i := 4) (DLS_e rfl rfl (Ef_of_Qt (zl rfl) ⟨SB, (zV (i := 10) (DLS_e rfl rfl (Ef_appendS KeptV.list (sv := .slice _ _ _) (xv := .slice _ _ _) (xs := ks) (ys := [(KeptV.mk (bodyG x23.1.body.l).2.1 x68.s (digW (bodyG x23.1.body.l).2.1))]) KeptV.list_len KeptV.list_one rfl rfl (by simp; omega) rfl rfl (fun a100 c100 => ⟨SB, ?_⟩))))⟩))
 refine zI (i := 11) rfl (Qt_nilCheck rfl) (zI (i := 12) rfl (zf 7 rfl rfl) (zV (i := 13) (DLS_n rfl (Ef_store1 (.slice _ _ _) rfl rfl (⟨SB, (DLF_nil (by kernel_rfl) (zx (T2 (Qai rfl rfl (TX (zQ ?_))))))⟩)))))
 have hws : (bodyG x23.1.body.l).2.1.slot = x23.1.slot := by simpa using h45
 have hok : KeptOK had (ks ++ [(KeptV.mk (bodyG x23.1.body.l).2.1 x68.s (digW (bodyG x23.1.body.l).2.1))]) := hK.snoc hlt rfl (by show x68.s.n = (bodyG x23.1.body.l).2.1.slot; omega) hgw (by show had < (bodyG x23.1.body.l).2.1.slot; omega) hlb ⟨hlp, hle⟩
 exact zX (⟨a100, c100, ks ++ [(KeptV.mk (bodyG x23.1.body.l).2.1 x68.s (digW (bodyG x23.1.body.l).2.1))], fp ++ x68.fp, 0⟩ : SNR) [_] Tryz.results15 ⟨rfl, trivial⟩ rfl (fun w hw => by
  have h1 : St w0 (dat fp ⟨(ks).map (fun k => k.last.batch), (ks).map (fun k => k.last.parts), []⟩ :: dat x68.fp x68.ld :: blk p (.cells (FetchV.mk (KeysV.mk ⟨sa, sc, ls⟩ ⟨ra, rs.length, rq⟩) (ViewV.mk num (mk : Int)) had mr wr ⟨a100, (ks ++ [(KeptV.mk (bodyG x23.1.body.l).2.1 x68.s (digW (bodyG x23.1.body.l).2.1))]).length, c100⟩).cells 111 (0, 0)) :: row (.slice a100 (ks ++ [(KeptV.mk (bodyG x23.1.body.l).2.1 x68.s (digW (bodyG x23.1.body.l).2.1))]).length c100) 119 135 ((ks ++ [(KeptV.mk (bodyG x23.1.body.l).2.1 x68.s (digW (bodyG x23.1.body.l).2.1))]).flatMap KeptV.list) :: H) w := SB w hw
  rw [hld] at h1
  have h2 : St w0 (dat (fp ++ x68.fp) ⟨(ks ++ [(KeptV.mk (bodyG x23.1.body.l).2.1 x68.s (digW (bodyG x23.1.body.l).2.1))]).map (fun k => k.last.batch), (ks ++ [(KeptV.mk (bodyG x23.1.body.l).2.1 x68.s (digW (bodyG x23.1.body.l).2.1))]).map (fun k => k.last.parts), []⟩ :: blk p (.cells (FetchV.mk (KeysV.mk ⟨sa, sc, ls⟩ ⟨ra, rs.length, rq⟩) (ViewV.mk num (mk : Int)) had mr wr ⟨a100, (ks ++ [(KeptV.mk (bodyG x23.1.body.l).2.1 x68.s (digW (bodyG x23.1.body.l).2.1))]).length, c100⟩).cells 111 (0, 0)) :: row (.slice a100 (ks ++ [(KeptV.mk (bodyG x23.1.body.l).2.1 x68.s (digW (bodyG x23.1.body.l).2.1))]).length c100) 119 135 ((ks ++ [(KeptV.mk (bodyG x23.1.body.l).2.1 x68.s (digW (bodyG x23.1.body.l).2.1))]).flatMap KeptV.list) :: H) w := by
   rw [List.map_append, List.map_append]; exact h1.datAdd
  exact (Subs.st inferInstance w h2 : St w0 (blk p (.cells (FetchV.mk (KeysV.mk ⟨sa, sc, ls⟩ ⟨ra, rs.length, rq⟩) (ViewV.mk num (mk : Int)) had mr wr ⟨a100, (ks ++ [(KeptV.mk (bodyG x23.1.body.l).2.1 x68.s (digW (bodyG x23.1.body.l).2.1))]).length, c100⟩).cells 111 (0, 0)) :: row (.slice a100 (ks ++ [(KeptV.mk (bodyG x23.1.body.l).2.1 x68.s (digW (bodyG x23.1.body.l).2.1))]).length c100) 119 135 ((ks ++ [(KeptV.mk (bodyG x23.1.body.l).2.1 x68.s (digW (bodyG x23.1.body.l).2.1))]).flatMap KeptV.list) :: dat (fp ++ x68.fp) ⟨(ks ++ [(KeptV.mk (bodyG x23.1.body.l).2.1 x68.s (digW (bodyG x23.1.body.l).2.1))]).map (fun k => k.last.batch), (ks ++ [(KeptV.mk (bodyG x23.1.body.l).2.1 x68.s (digW (bodyG x23.1.body.l).2.1))]).map (fun k => k.last.parts), []⟩ :: H) w).addPure ⟨by rw [stepW_some hsome, pushW_new hah (by rw [List.length_map]; exact hlt), List.map_append]; rfl, hok⟩)
end
section
open Go.RowKit Go.Sx
set_option maxRecDepth 100000
set_option maxHeartbeats 1000000
@[reducible] def encKm (k : MarkV) : Value := .agg k.cells
@[reducible] def encKt (k : TallyV) : Value := .agg k.cells
@[reducible] def encBo (b : Bool) : Value := .bool b
@[reducible] def encU (n : Nat) : Value := .int .u16 (n : Int)
theorem MarkV.check' (k : MarkV) (empty : Bool) (w : World) (d : Nat) : (Instr.checkKey empty (d + 1 + 1) 131 (.agg k.cells)).run Tryz.prog w = .ok () w := by
 rw [Instr.checkKey]
 simp only [Sem.run_bind, run_underlying Tryz.underlying131, Result.andThen_ok]
 simp only [List.forIn_toArray, List.forIn_cons, List.forIn_nil, ne_eq, String.reduceEq, not_false_eq_true, if_true, Sem.run_bind, part1, Result.andThen_ok, Instr.checkKey, run_underlying Tryz.underlying3, Sem.run_pure]
theorem MarkV.same' (k : MarkV) (d : Nat) : Instr.sameBits (d + 2) (.agg k.cells) (.agg k.cells) = true := by
 simp [Instr.sameBits, MarkV.cells, MarkV.list]
instance keyMark : Key Tryz.prog 131 encKm where
 eq x y w := equal_run (x := encKm x) (y := encKm y) (h := (inferInstance : EqV Tryz.prog 131 (.agg x.cells) (.agg y.cells) _)) w
 now d _ x y := .inl (sameNow_agg d _ _)
 there := by rw [Tryz.underlying131]; rfl
 check k empty w := MarkV.check' k empty w 9998
 same k := by
  have h : ∀ n : Nat, n = 9998 + 2 → Instr.sameBits n (encKm k) (encKm k) = true := fun n hn => by rw [hn]; exact MarkV.same' k 9998
  exact h 10000 (by decide)
theorem forIn_run {P : Program} {w : World} (g : Nat → PUnit → Sem (ForInStep PUnit)) : ∀ l : List Nat, (∀ i ∈ l, (g i ⟨⟩).run P w = .ok (.yield ⟨⟩) w) → (forIn l PUnit.unit g : Sem PUnit).run P w = .ok () w
 | [], _ => by simp only [List.forIn_nil, Sem.run_pure]
 | i :: l, h => by
  have h0 : (g i PUnit.unit).run P w = .ok (.yield ⟨⟩) w := h i (List.mem_cons_self ..)
  simp only [List.forIn_cons, Sem.run_bind, h0, Result.andThen_ok]
  exact forIn_run g l (fun j hj => h j (List.mem_cons_of_mem _ hj))
theorem int_check (x : Int) (empty : Bool) (w : World) (d : Nat) : (Instr.checkKey empty (d + 1) 3 (.int .i64 x)).run Tryz.prog w = .ok () w := by
 rw [Instr.checkKey]
 simp only [Sem.run_bind, run_underlying Tryz.underlying3, Result.andThen_ok, Sem.run_pure]
theorem hash_check (h : Vector UInt8 32) (empty : Bool) (w : World) (d : Nat) : (Instr.checkKey empty (d + 1 + 1) 32 (.agg (hlist h).toArray)).run Tryz.prog w = .ok () w := by
 rw [Instr.checkKey]
 simp only [Sem.run_bind, run_underlying Tryz.underlying32, Result.andThen_ok]
 rw [Std.Legacy.Range.forIn_eq_forIn_range']
 refine (congrArg (fun r => Result.andThen r _) (forIn_run _ _ (fun i hi => ?_))).trans (by rw [Result.andThen_ok, Sem.run_pure])
 have hi : i < 32 := by simpa using hi
 have ht : Ty1 Tryz.prog 5 := inferInstance
 obtain ⟨dd, ii, hd1, hd2, hi', hs⟩ := ht.spec
 have hc : CellAt (hlist h).toArray (i * 1) (byteV h[i]) := ⟨by simpa using hlist_get h i hi⟩
 simp only [Sem.run_bind, run_sizeOf_of hi', hs, Result.andThen_ok, part1, Instr.checkKey, run_underlying Tryz.underlying5, byteV, Sem.run_pure]
theorem TallyV.check' (k : TallyV) (empty : Bool) (w : World) (d : Nat) : (Instr.checkKey empty (d + 1 + 1 + 1) 133 (.agg k.cells)).run Tryz.prog w = .ok () w := by
 rw [Instr.checkKey]
 simp only [Sem.run_bind, run_underlying Tryz.underlying133, Result.andThen_ok]
 simp only [List.forIn_toArray, List.forIn_cons, List.forIn_nil, ne_eq, String.reduceEq, not_false_eq_true, if_true, Sem.run_bind, part1, partN, Result.andThen_ok, int_check, hash_check, Sem.run_pure]
theorem sameBits_ints : ∀ (L : List Value) (n : Nat), (∀ v ∈ L, Instr.sameBits n v v = true) → (L.zip L).all (fun (x, y) => Instr.sameBits n x y) = true
 | [], _, _ => rfl
 | v :: L, n, h => by simp only [List.zip_cons_cons, List.all_cons, h v (List.mem_cons_self ..), Bool.true_and]; exact sameBits_ints L n (fun u hu => h u (List.mem_cons_of_mem _ hu))
theorem TallyV.same' (k : TallyV) (d : Nat) : Instr.sameBits (d + 2) (.agg k.cells) (.agg k.cells) = true := by
 simp only [Instr.sameBits, beq_self_eq_true, Bool.true_and]
 refine sameBits_ints _ _ (fun v hv => ?_)
 have hv : v ∈ k.list := by simpa [TallyV.cells] using hv
 simp only [TallyV.list, List.cons_append, List.nil_append, List.mem_cons] at hv
 rcases hv with rfl | hv
 · simp [Instr.sameBits]
 · have : ∃ u : UInt8, v = byteV u := by
    simp only [hlist, bytesV, List.mem_map] at hv
    obtain ⟨u, -, rfl⟩ := hv; exact ⟨u, rfl⟩
   obtain ⟨u, rfl⟩ := this
   simp [Instr.sameBits, byteV]
instance keyTally : Key Tryz.prog 133 encKt where
 eq x y w := equal_run (x := encKt x) (y := encKt y) (h := (inferInstance : EqV Tryz.prog 133 (.agg x.cells) (.agg y.cells) _)) w
 now d _ x y := .inl (sameNow_agg d _ _)
 there := by rw [Tryz.underlying133]; rfl
 check k empty w := by
  have h : ∀ n : Nat, n = 9997 + 3 → (Instr.checkKey empty n 133 (encKt k)).run Tryz.prog w = .ok () w := fun n hn => by rw [hn]; exact TallyV.check' k empty w 9997
  exact h 10000 (by decide)
 same k := by
  have h : ∀ n : Nat, n = 9998 + 2 → Instr.sameBits n (encKt k) (encKt k) = true := fun n hn => by rw [hn]; exact TallyV.same' k 9998
  exact h 10000 (by decide)
abbrev PMX := List (Ent MarkV Bool)
abbrev TMX := List (Ent TallyV Nat)
/-- What the maps hold of the marks. -/
structure IsX (M : List MkD) (ps : PMX) (c : Nat) (ts : TMX) (d : Nat) : Prop where
 gp : GoodM ps c
 gt : GoodM ts d
 hp : ∀ k : MarkV, (getE ps k).getD false = M.any (fun x => decide (x.1 = k.frm ∧ x.2.1 = k.slot))
 ht : ∀ t : TallyV, (getE ts t).getD 0 = mskM M t.slot t.hash
 ok : OkM M
theorem IsX.nil : IsX [] [] 0 [] 0 := ⟨GoodM.nil, GoodM.nil, fun _ => rfl, fun _ => rfl, ⟨fun _ h => (by cases h), List.Pairwise.nil⟩⟩
theorem IsX.step {M : List MkD} {ps : PMX} {c d : Nat} {ts : TMX} (h : IsX M ps c ts d) {f s : Int} {hh : Vector UInt8 32} (hok : OkM (M ++ [(f, s, hh)])) :
 IsX (M ++ [(f, s, hh)]) (putE ps ⟨f, s⟩ true c) (clockE ps ⟨f, s⟩ c) (putE ts ⟨s, hh⟩ ((getE ts ⟨s, hh⟩).getD 0 ||| 2 ^ f.toNat) d) (clockE ts ⟨s, hh⟩ d) := by
 refine ⟨putE_goodK h.gp _ _, putE_goodK h.gt _ _, fun k => ?_, fun t => ?_, hok⟩
 · rw [getE_putK, List.any_append]
   by_cases he : k = ⟨f, s⟩
   · subst he; rw [if_pos rfl]; simp
   · rw [if_neg he, h.hp k]
     have : decide (f = k.frm ∧ s = k.slot) = false := decide_eq_false (fun hx => he (by cases k; simp only at hx; rw [hx.1, hx.2]))
     rw [show [(f, s, hh)].any (fun x : MkD => decide (x.1 = k.frm ∧ x.2.1 = k.slot)) = false from by rw [List.any_cons, List.any_nil, Bool.or_false]; exact this, Bool.or_false]
 · rw [getE_putK, mskM_snoc, ← h.ht t]
   by_cases he : t = ⟨s, hh⟩
   · subst he; rw [if_pos rfl, if_pos (show hitM s hh (f, s, hh) = true from decide_eq_true ⟨rfl, rfl⟩)]; rfl
   · rw [if_neg he, if_neg (fun hx => he (by have := of_decide_eq_true hx; cases t; simp only at this; rw [this.1, this.2]))]
structure MXR where
 ps : PMX
 c : Nat
 ts : TMX
 d : Nat
 e : Int
attribute [local irreducible] openOfK mskM
theorem markX_c {w0 : World} {H : List SA} {p r1 r2 c d : Nat} {num : Int} {mk : Nat} (hmk : mk < 65536) {had : Int} {fl : Sl} {M : List MkD} {ps : PMX} {ts : TMX} (hI : IsX M ps c ts d) {sa : Option Addr} {sc : Nat} {ls : List BS} [rk : RdC w0 H (.slice sa ls.length sc) 1 (ls.map BS.val)] [rke : RdE w0 H ls] (hkl : ∀ x ∈ ls, x.l.length ≤ 4294967000) {ra : Option Addr} {rq : Nat} {rs : List (Vector UInt8 32)} {a : Option Addr} {l : List UInt8} {lc : Nat} [hr : RdB w0 H (.slice a l.length lc) l] (hl : l.length ≤ 4294960000) :
 CT Tryz.prog w0 (blk p (.cells (FetchV.mk (KeysV.mk ⟨sa, sc, ls⟩ ⟨ra, rs.length, rq⟩) (ViewV.mk num (mk : Int)) had (some r1) (some r2) fl).cells 111 (0, 0)) :: blk r1 (mapO encKm encBo ps c) :: blk r2 (mapO encKt encU ts d) :: H) 17 [.pointer (some ⟨p, 0, none⟩), .slice a l.length lc] (α := MXR) (fun y => .int .i64 y.e) (fun y => pu (IsX (markM (ls.map BS.l) mk had M l) y.ps y.c y.ts y.d) :: blk p (.cells (FetchV.mk (KeysV.mk ⟨sa, sc, ls⟩ ⟨ra, rs.length, rq⟩) (ViewV.mk num (mk : Int)) had (some r1) (some r2) fl).cells 111 (0, 0)) :: blk r1 (mapO encKm encBo y.ps y.c) :: blk r2 (mapO encKt encU y.ts y.d) :: H) := by
 refine CT_intro Tryz.func17 rfl Tryz.ntmps17 rfl (T2 (Qai rfl rfl (TX (zS (T2 (zy (zm (.pointer _) rfl) (zy (Qt_ptr_nil rfl rfl Tryz.underlying48) (TX (T_cond_false rfl (by first | rfl | decide) (zk (zx ?_)))))))))))
 refine T_cut [5, 6, 10, 11, 12, 13, 14, 15, 16, 17, 18, 19, 20, 21, 22] [5, 6] (fun us H' => ∃ (b5 : Nat) (x20 : MsgV × List Nat), us = [.pointer (some ⟨b5, 0, none⟩), .int .i64 (openOfK (ls.map BS.l) mk l).1] ∧ blk b5 (.cells x20.1.cells 82 (0, 0)) :: blk p (.cells (FetchV.mk (KeysV.mk ⟨sa, sc, ls⟩ ⟨ra, rs.length, rq⟩) (ViewV.mk num (mk : Int)) had (some r1) (some r2) fl).cells 111 (0, 0)) :: blk r1 (mapO encKm encBo ps c) :: blk r2 (mapO encKt encU ts d) :: H = H' ∧ x20.1.abs = (openOfK (ls.map BS.l) mk l).2) ?_ ?_
 ·
  refine T_drawF (blk p (.cells (FetchV.mk (KeysV.mk ⟨sa, sc, ls⟩ ⟨ra, rs.length, rq⟩) (ViewV.mk num (mk : Int)) had (some r1) (some r2) fl).cells 111 (0, 0)) :: H) (by kernel_rfl) SB (zI (i := 0) rfl (zm (.pointer _) rfl) (zI (i := 1) rfl (Qt_nilCheck rfl) (zI (i := 2) rfl (zf 0 rfl rfl) (zI (i := 3) rfl (zn rfl rfl) (zI (i := 4) rfl (zm (.pointer _) rfl) ?_)))))
  refine zI (i := 5) rfl (Qt_nilCheck rfl) (zI (i := 6) rfl (zf 2 rfl rfl) (zI (i := 7) rfl (zn rfl rfl) (zI (i := 8) rfl (zm (.slice _ _ _) rfl) (DLF_2 (i := 9) (j := 13) (by kernel_rfl) ?_ ?_))))
  ·
   refine DLS_e rfl rfl (zc (openOf_c (num := num) (mk := mk) hmk (sa := sa) (sc := sc) (ls := ls) (rt := ⟨ra, rs.length, rq⟩) hkl (a := a) (l := l) (c := lc) (hr := inferInstance) hl) rfl (fun x20 => ⟨SB, ?_⟩))
   refine DLF_pure (fun h20 => ?_)
   refine zI (i := 10) rfl (zm (.tuple _) rfl) (zI (i := 11) rfl (Qt_extract rfl) (zI (i := 12) rfl (Qt_extract rfl) (zV (i := 13) (DLS_e rfl rfl (Ef_allocN (fun b5 => ⟨SB, ?_⟩))))))
   refine zV (i := 14) (DLS_n rfl (zs rfl rfl (⟨SB, (zI (i := 15) rfl (za (.int .i64 _) rfl) (DLF_nil (by kernel_rfl) ?_))⟩)))
   refine X_cut _ zA (⟨b5, x20, rfl, rfl, h20⟩) (SB)
  refine DLS_e rfl rfl (Ef_allocN (fun b5 => ⟨SB, ?_⟩))
  refine zV (i := 9) (DLS_e rfl rfl (zc (openOf_c (num := num) (mk := mk) hmk (sa := sa) (sc := sc) (ls := ls) (rt := ⟨ra, rs.length, rq⟩) hkl (a := a) (l := l) (c := lc) (hr := inferInstance) hl) rfl (fun x20 => ⟨SB, ?_⟩)))
  refine DLF_pure (fun h20 => ?_)
  refine zI (i := 10) rfl (zm (.tuple _) rfl) (zI (i := 11) rfl (Qt_extract rfl) (zI (i := 12) rfl (Qt_extract rfl) (zV (i := 14) (DLS_n rfl (zs rfl rfl (⟨SB, (zI (i := 15) rfl (za (.int .i64 _) rfl) (DLF_nil (by kernel_rfl) ?_))⟩))))))
  refine X_cut _ zA (⟨b5, x20, rfl, rfl, h20⟩) (SB)
 rintro τc0 _ _ ⟨b5, x20, rfl, rfl, h20⟩ _
 have hkd : x20.1.kind = (openOfK (ls.map BS.l) mk l).2.kind := congrArg MsgD.kind h20
 have hsl : x20.1.slot = (openOfK (ls.map BS.l) mk l).2.slot := congrArg MsgD.slot h20
 have hhs : x20.1.hash = (openOfK (ls.map BS.l) mk l).2.hash := congrArg MsgD.hash h20
 have hfr : x20.1.frm = (openOfK (ls.map BS.l) mk l).2.frm := congrArg MsgD.frm h20
 have hf0 : 0 ≤ x20.1.frm ∧ x20.1.frm < 16 := by rw [hfr]; exact opn_frm (ls.map BS.l) mk l
 obtain ⟨f, hfe⟩ := Int.eq_ofNat_of_zero_le hf0.1
 have hf16 : f < 16 := by omega
 have h2f : 2 ^ f < 65536 := Nat.pow_lt_pow_right (by decide) hf16
 refine T2 (zy (zf 1 rfl rfl) (zy (zl rfl) (zy (zf 4 rfl rfl) (zy (zl rfl) (zy (Qt_val (zw [(0, .int .i64 _), (1, .int .i64 _)] rfl) (show _ = Value.agg (MarkV.mk x20.1.frm x20.1.slot).cells from rfl)) (ze rfl (Ef_allocN (fun b7 => ?_))))))))
 refine zN (zs rfl rfl (TX (zS (zB (T2 (Qmi rfl rfl (zy (Qt_neq rfl rfl) (Qab rfl rfl (TX (zC rfl (fun h28 => ?_) (fun h28 => ?_)))))))))))
 ·
  have p28 := cL h28
  refine T2 (Qmi rfl rfl (Qai rfl rfl (TX (zQ (zb (zr ?_))))))
  have e : (markM (ls.map BS.l) mk had M l) = M := by unfold markM; rw [if_pos (by simpa using h28)]
  exact zX (⟨ps, c, ts, d, (openOfK (ls.map BS.l) mk l).1⟩ : MXR) [_] Tryz.results17 ⟨rfl, trivial⟩ rfl (fun w hw => (SB w hw : St w0 (blk p (.cells (FetchV.mk (KeysV.mk ⟨sa, sc, ls⟩ ⟨ra, rs.length, rq⟩) (ViewV.mk num (mk : Int)) had (some r1) (some r2) fl).cells 111 (0, 0)) :: blk r1 (mapO encKm encBo ps c) :: blk r2 (mapO encKt encU ts d) :: H) w).addPure (by rw [e]; exact hI))
 have p28 := cL h28
 have hz : (openOfK (ls.map BS.l) mk l).1 = 0 := by simpa using h28
 refine T2 (zy (zf 0 rfl rfl) (zy (zl rfl) (zy (Qt_neq rfl rfl) (Qab rfl rfl (TX (zC rfl (fun h32 => ?_) (fun h32 => ?_)))))))
 ·
  have p32 := cL h32
  refine T2 (Qai rfl rfl (TX (zQ (zb (zr ?_)))))
  have e : (markM (ls.map BS.l) mk had M l) = M := by unfold markM; rw [if_neg (by omega), if_pos (by rw [← hkd]; simpa using h32)]
  exact zX (⟨ps, c, ts, d, 15⟩ : MXR) [_] Tryz.results17 ⟨rfl, trivial⟩ rfl (fun w hw => (SB w hw : St w0 (blk p (.cells (FetchV.mk (KeysV.mk ⟨sa, sc, ls⟩ ⟨ra, rs.length, rq⟩) (ViewV.mk num (mk : Int)) had (some r1) (some r2) fl).cells 111 (0, 0)) :: blk r1 (mapO encKm encBo ps c) :: blk r2 (mapO encKt encU ts d) :: H) w).addPure (by rw [e]; exact hI))
 have p32 := cL h32
 have hk10 : (openOfK (ls.map BS.l) mk l).2.kind = 10 := by rw [← hkd]; simpa using h32
 refine zS (zD (blk b5 (.cells x20.1.cells 82 (0, 0)) :: blk b7 (.cells (MarkV.mk x20.1.frm x20.1.slot).cells 131 (0, 0)) :: blk p (.cells (FetchV.mk (KeysV.mk ⟨sa, sc, ls⟩ ⟨ra, rs.length, rq⟩) (ViewV.mk num (mk : Int)) had (some r1) (some r2) fl).cells 111 (0, 0)) :: blk r1 (mapO encKm encBo ps c) :: H) [(0, true), (1, true), (2, true), (3, true), (4, true), (5, true), (6, true), (7, true), (8, true), (9, true), (10, true), (11, true), (12, true), (13, true), (14, true), (15, true)] SB (fun hns1 => ?_))
 refine zd hns1 rfl (zf 4 rfl rfl) rfl (zd hns1 rfl (zl rfl) rfl (zd hns1 rfl (zm (.pointer _) rfl) rfl (zd hns1 rfl (Qt_nilCheck rfl) rfl (zd hns1 rfl (zf 4 rfl rfl) rfl (zd hns1 rfl (zl rfl) rfl (zd hns1 rfl (Qt_leq rfl rfl) rfl (zd hns1 rfl (zm (.bool _) rfl) rfl (DL_split 44 rfl (fun h44 => ?_) (fun h44 => ?_)))))))))
 ·
  have p44 := cL h44
  refine DL_pass hns1 rfl rfl rfl h44 rfl (DL_pass hns1 rfl rfl rfl h44 rfl (DL_pass hns1 rfl rfl rfl h44 rfl (DL_pass hns1 rfl rfl rfl h44 rfl (DL_pass hns1 rfl rfl rfl h44 rfl (DL_pass hns1 rfl rfl rfl h44 rfl (zd hns1 rfl (zT (.bool _) rfl h44 rfl) rfl (zd hns1 rfl (za (.bool _) rfl) rfl (DL_nil (zx (T_cond_true rfl rfl (T2 (Qai rfl rfl (TX (zQ (zb (zr ?_))))))))))))))))
  have e : (markM (ls.map BS.l) mk had M l) = M := by
   unfold markM
   rw [if_neg (by omega), if_neg (by omega)]
   by_cases hh : (openOfK (ls.map BS.l) mk l).2.slot ≤ had
   · rw [if_pos hh]
   · rw [if_neg hh, if_pos (by first | exact hany | (exact absurd (by rw [← hsl]; omega) hh))]
  exact zX (⟨ps, c, ts, d, 7⟩ : MXR) [_] Tryz.results17 ⟨rfl, trivial⟩ rfl (fun w hw => (SB w hw : St w0 (blk p (.cells (FetchV.mk (KeysV.mk ⟨sa, sc, ls⟩ ⟨ra, rs.length, rq⟩) (ViewV.mk num (mk : Int)) had (some r1) (some r2) fl).cells 111 (0, 0)) :: blk r1 (mapO encKm encBo ps c) :: blk r2 (mapO encKt encU ts d) :: H) w).addPure (by rw [e]; exact hI))
 have p44 := cL h44
 have hhd : ¬ (openOfK (ls.map BS.l) mk l).2.slot ≤ had := by rw [← hsl]; omega
 refine DL_qg hns1 rfl rfl rfl h44 (zm (.pointer _) rfl) rfl (DL_qg hns1 rfl rfl rfl h44 (Qt_nilCheck rfl) rfl (DL_qg hns1 rfl rfl rfl h44 (zf 5 rfl rfl) rfl (DL_qg hns1 rfl rfl rfl h44 (zl rfl) rfl (DL_qg hns1 rfl rfl rfl h44 (zn rfl rfl) rfl (DL_qg hns1 rfl rfl rfl h44 (Qt_lookup1 (key := (MarkV.mk x20.1.frm x20.1.slot)) (enc := encKm) (ev := encBo) (false) rfl rfl Tryz.underlying107 ((inferInstance : TyZ Tryz.prog 4 (.bool false)).ok)) rfl (zd hns1 rfl (zF (.bool _) rfl h44 rfl) rfl (zd hns1 rfl (za (.bool _) rfl) rfl (DL_nil (zx (zC rfl (fun h36 => ?_) (fun h36 => ?_)))))))))))
 ·
  have p36 := cL h36
  have hany : M.any (fun x => decide (x.1 = (openOfK (ls.map BS.l) mk l).2.frm ∧ x.2.1 = (openOfK (ls.map BS.l) mk l).2.slot)) = true := by rw [← hfr, ← hsl, ← hI.hp (MarkV.mk x20.1.frm x20.1.slot)]; exact h36
  refine T2 (Qai rfl rfl (TX (zQ (zb (zr ?_)))))
  have e : (markM (ls.map BS.l) mk had M l) = M := by
   unfold markM
   rw [if_neg (by omega), if_neg (by omega)]
   by_cases hh : (openOfK (ls.map BS.l) mk l).2.slot ≤ had
   · rw [if_pos hh]
   · rw [if_neg hh, if_pos (by first | exact hany | (exact absurd (by rw [← hsl]; omega) hh))]
  exact zX (⟨ps, c, ts, d, 7⟩ : MXR) [_] Tryz.results17 ⟨rfl, trivial⟩ rfl (fun w hw => (SB w hw : St w0 (blk p (.cells (FetchV.mk (KeysV.mk ⟨sa, sc, ls⟩ ⟨ra, rs.length, rq⟩) (ViewV.mk num (mk : Int)) had (some r1) (some r2) fl).cells 111 (0, 0)) :: blk r1 (mapO encKm encBo ps c) :: blk r2 (mapO encKt encU ts d) :: H) w).addPure (by rw [e]; exact hI))
 have p36 := cL h36
 have hany : M.any (fun x => decide (x.1 = (openOfK (ls.map BS.l) mk l).2.frm ∧ x.2.1 = (openOfK (ls.map BS.l) mk l).2.slot)) = false := by rw [← hfr, ← hsl, ← hI.hp (MarkV.mk x20.1.frm x20.1.slot)]; exact h36
 refine zk (X_block (zx (zS (zD (blk b7 (.cells (MarkV.mk x20.1.frm x20.1.slot).cells 131 (0, 0)) :: blk p (.cells (FetchV.mk (KeysV.mk ⟨sa, sc, ls⟩ ⟨ra, rs.length, rq⟩) (ViewV.mk num (mk : Int)) had (some r1) (some r2) fl).cells 111 (0, 0)) :: H) [(0, true), (1, true), (2, true), (3, true), (4, true), (5, false)] SB (fun hns2 => ?_)))))
 refine zd hns2 rfl (zm (.pointer _) rfl) rfl (zd hns2 rfl (Qt_nilCheck rfl) rfl (zd hns2 rfl (zf 5 rfl rfl) rfl (zd hns2 rfl (zl rfl) rfl (zd hns2 rfl (zn rfl rfl) rfl ?_))))
 have hml : (getE ts (TallyV.mk x20.1.slot x20.1.hash)).getD 0 < 65536 := by rw [hI.ht]; exact mskM_lt hI.ok _ _
 refine DL_n rfl (Ef_mapUpdate (key := (MarkV.mk x20.1.frm x20.1.slot)) (enc := encKm) (ev := encBo) (true) rfl rfl rfl Tryz.underlying107 (⟨SB, (DL_nil (zx (zS ?_)))⟩))
 refine T_drawF (blk b5 (.cells x20.1.cells 82 (0, 0)) :: blk p (.cells (FetchV.mk (KeysV.mk ⟨sa, sc, ls⟩ ⟨ra, rs.length, rq⟩) (ViewV.mk num (mk : Int)) had (some r1) (some r2) fl).cells 111 (0, 0)) :: H) (by kernel_rfl) SB (zI (i := 0) rfl (zm (.pointer _) rfl) (zI (i := 1) rfl (Qt_nilCheck rfl) (zI (i := 2) rfl (zf 6 rfl rfl) (zI (i := 3) rfl (zl rfl) (zI (i := 4) rfl (zf 4 rfl rfl) ?_)))))
 refine zI (i := 5) rfl (zl rfl) (zI (i := 6) rfl (zf 5 rfl rfl) (zI (i := 7) rfl (zn rfl rfl) (zI (i := 8) rfl (Qt_val (zw [(0, .int .i64 _), (1, .agg _)] rfl) (show _ = Value.agg (TallyV.mk x20.1.slot x20.1.hash).cells from rfl)) (zI (i := 10) rfl (zf 1 rfl rfl) (zI (i := 11) rfl (zl rfl) (zI (i := 12) rfl (Qt_val (Qt_shlN (k := .u16) (a := 1) (m := f) rfl (show Value.int .i64 x20.1.frm = Value.int .i64 (f : Int) from by rw [hfe]) (by show f ≤ 16; omega) (by show 1 * 2 ^ f < 2 ^ 16; omega) rfl) (show Value.int .u16 ((1 * 2 ^ f : Nat) : Int) = Value.int .u16 ((2 ^ f : Nat) : Int) from by rw [Nat.one_mul])) (DLF_2 (i := 9) (j := 14) (by kernel_rfl) ?_ ?_)))))))
 ·
  refine DLS_e rfl rfl (Ef_of_Qt (Qt_lookup1 (key := (TallyV.mk x20.1.slot x20.1.hash)) (enc := encKt) (ev := encU) ((0 : Nat)) rfl rfl Tryz.underlying108 ((inferInstance : TyZ Tryz.prog 22 (.int .u16 0)).ok)) ⟨SB, ?_⟩)
  try simp only [getE_putK, if_true, Option.getD_some]
  refine zI (i := 13) rfl (Qt_orN rfl rfl rfl (by show _ < 2 ^ 16; omega) (by show _ < 2 ^ 16; omega)) (zV (i := 14) (DLS_e rfl rfl (Ef_mapEntry (key := (TallyV.mk x20.1.slot x20.1.hash)) (enc := encKt) (ev := encU) (0 : Nat) rfl rfl Tryz.underlying108 ((inferInstance : TyZ Tryz.prog 22 (.int .u16 0)).ok) (⟨SB, (zI (i := 15) rfl (Qt_extract rfl) (zV (i := 16) (DLS_n rfl (Ef_entryStore (key := (TallyV.mk x20.1.slot x20.1.hash)) (enc := encKt) (ev := encU) ((getE ts (TallyV.mk x20.1.slot x20.1.hash)).getD 0 ||| 2 ^ f) rfl rfl rfl (putE_goodK hI.gt _ _).born (putE_find _ _ _ _) (⟨SB, (DLF_nil (by kernel_rfl) (zx (T2 (Qai rfl rfl (TX (zQ ?_))))))⟩)))))⟩))))
  have e : (markM (ls.map BS.l) mk had M l) = M ++ [(x20.1.frm, x20.1.slot, x20.1.hash)] := by unfold markM; rw [if_neg (by omega), if_neg (by omega), if_neg hhd, if_neg (by rw [hany]; decide), ← hfr, ← hsl, ← hhs]
  have hok := hI.ok.step (K := (ls.map BS.l)) (mk := mk) (had := had) (l := l)
  rw [e] at hok
  have hst := hI.step hok
  rw [show x20.1.frm.toNat = f from by omega] at hst
  rw [putE_putE]
  exact zX (⟨putE ps (MarkV.mk x20.1.frm x20.1.slot) true c, clockE ps (MarkV.mk x20.1.frm x20.1.slot) c, putE ts (TallyV.mk x20.1.slot x20.1.hash) ((getE ts (TallyV.mk x20.1.slot x20.1.hash)).getD 0 ||| 2 ^ f) d, clockE ts (TallyV.mk x20.1.slot x20.1.hash) d, 0⟩ : MXR) [_] Tryz.results17 ⟨rfl, trivial⟩ rfl (fun w hw => (SB w hw : St w0 (blk p (.cells (FetchV.mk (KeysV.mk ⟨sa, sc, ls⟩ ⟨ra, rs.length, rq⟩) (ViewV.mk num (mk : Int)) had (some r1) (some r2) fl).cells 111 (0, 0)) :: blk r1 (mapO encKm encBo (putE ps (MarkV.mk x20.1.frm x20.1.slot) true c) (clockE ps (MarkV.mk x20.1.frm x20.1.slot) c)) :: blk r2 (mapO encKt encU (putE ts (TallyV.mk x20.1.slot x20.1.hash) ((getE ts (TallyV.mk x20.1.slot x20.1.hash)).getD 0 ||| 2 ^ f) d) (clockE ts (TallyV.mk x20.1.slot x20.1.hash) d)) :: H) w).addPure (by rw [e]; exact hst))
 refine DLS_e rfl rfl (Ef_mapEntry (key := (TallyV.mk x20.1.slot x20.1.hash)) (enc := encKt) (ev := encU) (0 : Nat) rfl rfl Tryz.underlying108 ((inferInstance : TyZ Tryz.prog 22 (.int .u16 0)).ok) (⟨SB, (zI (i := 15) rfl (Qt_extract rfl) (zV (i := 9) (DLS_e rfl rfl (Ef_of_Qt (Qt_lookup1 (key := (TallyV.mk x20.1.slot x20.1.hash)) (enc := encKt) (ev := encU) ((0 : Nat)) rfl rfl Tryz.underlying108 ((inferInstance : TyZ Tryz.prog 22 (.int .u16 0)).ok)) ⟨SB, ?_⟩))))⟩))
 try simp only [getE_putK, if_true, Option.getD_some]
 refine zI (i := 13) rfl (Qt_orN rfl rfl rfl (by show _ < 2 ^ 16; omega) (by show _ < 2 ^ 16; omega)) (zV (i := 16) (DLS_n rfl (Ef_entryStore (key := (TallyV.mk x20.1.slot x20.1.hash)) (enc := encKt) (ev := encU) ((getE ts (TallyV.mk x20.1.slot x20.1.hash)).getD 0 ||| 2 ^ f) rfl rfl rfl (putE_goodK hI.gt _ _).born (putE_find _ _ _ _) (⟨SB, (DLF_nil (by kernel_rfl) (zx (T2 (Qai rfl rfl (TX (zQ ?_))))))⟩))))
 have e : (markM (ls.map BS.l) mk had M l) = M ++ [(x20.1.frm, x20.1.slot, x20.1.hash)] := by unfold markM; rw [if_neg (by omega), if_neg (by omega), if_neg hhd, if_neg (by rw [hany]; decide), ← hfr, ← hsl, ← hhs]
 have hok := hI.ok.step (K := (ls.map BS.l)) (mk := mk) (had := had) (l := l)
 rw [e] at hok
 have hst := hI.step hok
 rw [show x20.1.frm.toNat = f from by omega] at hst
 rw [putE_putE]
 exact zX (⟨putE ps (MarkV.mk x20.1.frm x20.1.slot) true c, clockE ps (MarkV.mk x20.1.frm x20.1.slot) c, putE ts (TallyV.mk x20.1.slot x20.1.hash) ((getE ts (TallyV.mk x20.1.slot x20.1.hash)).getD 0 ||| 2 ^ f) d, clockE ts (TallyV.mk x20.1.slot x20.1.hash) d, 0⟩ : MXR) [_] Tryz.results17 ⟨rfl, trivial⟩ rfl (fun w hw => (SB w hw : St w0 (blk p (.cells (FetchV.mk (KeysV.mk ⟨sa, sc, ls⟩ ⟨ra, rs.length, rq⟩) (ViewV.mk num (mk : Int)) had (some r1) (some r2) fl).cells 111 (0, 0)) :: blk r1 (mapO encKm encBo (putE ps (MarkV.mk x20.1.frm x20.1.slot) true c) (clockE ps (MarkV.mk x20.1.frm x20.1.slot) c)) :: blk r2 (mapO encKt encU (putE ts (TallyV.mk x20.1.slot x20.1.hash) ((getE ts (TallyV.mk x20.1.slot x20.1.hash)).getD 0 ||| 2 ^ f) d) (clockE ts (TallyV.mk x20.1.slot x20.1.hash) d)) :: H) w).addPure (by rw [e]; exact hst))
end
end Go.Proofs.YtnijomppbgdmnaaGreat
