/- Walk: the law XferTrue. -/
import Derived.Test.YtnijomppbgdmnaaGreatSgP
import Derived.Test.YtnijomppbgdmnaaGreatYmRP
set_option linter.unusedSimpArgs false
set_option linter.unusedVariables false
namespace Go.Proofs.YtnijomppbgdmnaaGreat
open Go.RowKit Go.Sx
set_option maxRecDepth 100000
set_option maxHeartbeats 1000000
theorem worlds_none {K : List (List UInt8)} {rs : List (Vector UInt8 32)} {mk : Nat} {had : Int} {P : List (List UInt8)} : worldsF K rs mk had (P.take 0) = [] := rfl
theorem marks_none {K : List (List UInt8)} {mk : Nat} {had : Int} {P : List (List UInt8)} : marksF K mk had (P.take 0) = [] := rfl
theorem worlds_next {K : List (List UInt8)} {rs : List (Vector UInt8 32)} {mk : Nat} {had : Int} {ps : List BS} {k : Nat} (hk : k < ps.length) {W W' : List WorldV} (hw : W = worldsF K rs mk had ((ps.map BS.l).take k)) (h : W' = stepW K rs mk had W ps[k].l) : W' = worldsF K rs mk had ((ps.map BS.l).take (k + 1)) := by
 rw [h, hw, worlds_step _ k (by simpa using hk), List.getElem_map]
theorem marks_next {K : List (List UInt8)} {mk : Nat} {had : Int} {ps : List BS} {k : Nat} (hk : k < ps.length) : markM K mk had (marksF K mk had ((ps.map BS.l).take k)) ps[k].l = marksF K mk had ((ps.map BS.l).take (k + 1)) := by
 rw [marks_step _ k (by simpa using hk), List.getElem_map]
theorem marks_few {K : List (List UInt8)} {mk : Nat} {had : Int} {ps : List BS} {k : Nat} {ms : List MsgV} (h : ms.map trip = marksF K mk had ((ps.map BS.l).take k)) (hp : ps.length ≤ 30) : ms.length ≤ 30 := by
 have h1 := congrArg List.length h
 have h2 := marks_len K mk had ((ps.map BS.l).take k)
 rw [List.length_map] at h1
 rw [List.length_take, List.length_map] at h2
 omega
theorem same_worlds {ks : List KeptV} {ks2 : List RKeptV} (h : ks.map (fun x => x.w) = ks2.map (fun x => x.w)) {v : RKeptV} (hv : v ∈ ks2) : ∃ k ∈ ks, k.w = v.w := by
 have h1 : v.w ∈ ks2.map (fun x => x.w) := List.mem_map.2 ⟨v, hv, rfl⟩
 rw [← h] at h1
 obtain ⟨k, hk, he⟩ := List.mem_map.1 h1
 exact ⟨k, hk, he⟩
attribute [local irreducible] openOfK markM stepW digW cntM bitsB ones16 someV Qual keyT worldsF marksF
theorem xferTrue_c {w0 : World} {H : List SA} {num : Int} {mk : Nat} (hmk : mk < 65536) {had : Int} {ra : Option Addr} {rc : Nat} {hs : List (Vector UInt8 32)} [hr : RdC w0 H (.slice ra hs.length rc) 32 (hs.flatMap hlist)] {pa : Option Addr} {pc : Nat} {ps : List BS} [pk : RdC w0 H (.slice pa ps.length pc) 1 (ps.map BS.val)] [pke : RdE w0 H ps] :
 CT Tryz.prog w0 (H) 4 [.agg (AskX.mk (ViewV.mk num (mk : Int)) had ⟨ra, hs.length, rc⟩).cells, .slice pa ps.length pc] (α := Unit) (fun _ => .bool true) (fun _ => H) := by
 have bits0 : bitsB mk 0 = 0 := Nat.le_zero.1 (bits_le mk 0)
 have worlds0 : worldsF (keyT 16) hs mk had ((ps.map BS.l).take 0) = [] := worlds_none
 have marks0 : marksF (keyT 16) mk had ((ps.map BS.l).take 0) = [] := marks_none
 refine CT_intro Tryz.func4 rfl Tryz.ntmps4 rfl (T2 (ze rfl (Ef_boxN rfl (fun b2 => ?_))))
 refine Qab rfl rfl (TX (zS (T2 (ze rfl (zc (wakes22_c) rfl (fun x17 => ?_))))))
 refine zy (Qt_not rfl) (TX (T_cond_false rfl (by first | rfl | decide) (zk (zx (zS (T2 (Qms rfl rfl (ze rfl (zc (long22_c (ps := ps)) rfl (fun x20 => ?_))))))))))
 refine TL_pure (fun h20 => ?_)
 refine Qmb rfl rfl (TL_split 21 rfl (fun h21 => ?_) (fun h21 => ?_))
 ·
  have p21 := cL h21
  refine zp rfl rfl h21 rfl (zp rfl rfl h21 rfl (zp rfl rfl h21 rfl (zp rfl rfl h21 rfl (zy (zT (.bool _) rfl h21 rfl) (TX (T_cond_true rfl rfl (T2 (Qab rfl rfl (TX (zQ (zr ?_)))))))))))
  exact zX () [.bool true] Tryz.results4 ⟨rfl, trivial⟩ rfl SB
 have p21 := cL h21
 refine zt rfl rfl h21 (zy (zf 3 rfl rfl) (zt rfl rfl h21 (zy (zl rfl) (zt rfl rfl h21 (zy (zL rfl Tryz.underlying25) (zt rfl rfl h21 (zy (Qt_gtr rfl rfl) (zy (zF (.bool _) rfl h21 rfl) (TX (zC rfl (fun h26 => ?_) (fun h26 => ?_)))))))))))
 ·
  have p26 := cL h26
  refine T2 (Qab rfl rfl (TX (zQ (zr ?_))))
  exact zX () [.bool true] Tryz.results4 ⟨rfl, trivial⟩ rfl SB
 have p26 := cL h26
 obtain ⟨hp30, hpe⟩ := h20 (by simpa using h21)
 have hhs : hs.length ≤ 10 := by omega
 refine zk (zx (zS (zD (blk b2 (.cells (AskX.mk (ViewV.mk num (mk : Int)) had ⟨ra, hs.length, rc⟩).cells 47 (0, 0)) :: H) [(0, true), (2, true), (3, true), (4, true), (5, true), (1, false), (6, false), (7, true)] SB (fun hns0 => ?_))))
 refine zd hns0 rfl (zn rfl rfl) rfl (zd hns0 rfl (zf 0 rfl rfl) rfl (zd hns0 rfl (zn rfl rfl) rfl (zd hns0 rfl (zf 2 rfl rfl) rfl (zd hns0 rfl (zl rfl) rfl (DL_e rfl rfl (zc (keys22_c (ask := (AskX.mk (ViewV.mk num (mk : Int)) had ⟨ra, hs.length, rc⟩))) rfl (fun x28 => ⟨SB, ?_⟩)))))))
 refine DL_pure (fun h28 => ?_)
 refine DL_e rfl rfl (zc (xnew_c (num := num) (mk := mk) (had := had) (sa := x28.1.a) (sc := x28.1.c) (ls := x28.1.ls) (ra := ra) (rc := rc) (hs := hs) (key16 h28).1 (key16 h28).2 (by omega)) rfl (fun x33 => ⟨SB, ?_⟩))
 refine DL_pure (fun h33 => ?_)
 have hk1 : x33.2.1.1.ls.map BS.l = keyT 16 := h33.trans h28
 refine zd hns0 rfl (za (.pointer _) rfl) rfl (DL_nil (zx (zS (zD (blk b2 (.cells (AskX.mk (ViewV.mk num (mk : Int)) had ⟨ra, hs.length, rc⟩).cells 47 (0, 0)) :: H) [(0, true), (2, true), (3, true), (4, true), (5, true), (1, false), (6, true), (7, false), (8, true)] SB (fun hns1 => ?_)))))
 refine zd hns1 rfl (zn rfl rfl) rfl (zd hns1 rfl (zf 0 rfl rfl) rfl (zd hns1 rfl (zn rfl rfl) rfl (zd hns1 rfl (zf 2 rfl rfl) rfl (zd hns1 rfl (zl rfl) rfl (DL_e rfl rfl (zc (keys22_c (ask := (AskX.mk (ViewV.mk num (mk : Int)) had ⟨ra, hs.length, rc⟩))) rfl (fun x35 => ⟨SB, ?_⟩)))))))
 refine DL_pure (fun h35 => ?_)
 refine zd hns1 rfl (zw [(0, (.agg _)), (1, (.agg _)), (2, (.int .i64 _))] rfl) rfl (DL_e rfl rfl (Ef_boxN rfl (fun b41 => ⟨SB, ?_⟩)))
 refine zd hns1 rfl (za (.pointer _) rfl) rfl (DL_nil (zx (zS (T2 (Qms rfl rfl (zy (zL rfl Tryz.underlying28) (Qmi rfl rfl (TX (zB ?_)))))))))
 refine T_loop [8, 44, 45, 46, 47, 48, 49, 50, 51, 52, 53, 54] [44] (fun us H' => ∃ (i : Nat) (la : Option Addr) (lc : Nat) (ks : List KeptV) (fp : List Nat) (la2 : Option Addr) (lc2 : Nat) (ks2 : List RKeptV), us = [.int .i64 (i : Int)] ∧ dat fp ⟨(ks).map (fun k => k.last.batch), (ks).map (fun k => k.last.parts), []⟩ :: row (.slice la (ks).length lc) 119 135 ((ks).flatMap KeptV.list) :: row (.slice la2 (ks2).length lc2) 75 103 ((ks2).flatMap RKeptV.list) :: blk x33.1.1 (.cells (FetchV.mk (KeysV.mk ⟨x33.2.1.1.a, x33.2.1.1.c, x33.2.1.1.ls⟩ ⟨x33.2.2.a, hs.length, x33.2.2.c⟩) (ViewV.mk num (mk : Int)) had (some x33.1.2.1) (some x33.1.2.2) ⟨la, ks.length, lc⟩).cells 111 (0, 0)) :: blk b41 (.cells (RFetchV.mk (KeysV.mk ⟨x35.1.a, x35.1.c, x35.1.ls⟩ ⟨ra, hs.length, rc⟩) (ViewV.mk num (mk : Int)) had ⟨none, 0, 0⟩ ⟨la2, ks2.length, lc2⟩).cells 55 (0, 0)) :: blk x33.1.2.1 (mapO encKm encBo [] 0) :: blk x33.1.2.2 (mapO encKt encU [] 0) :: dat x33.2.1.2 (Deep.leads (PS.mk x33.2.1.1.a x33.2.1.1.c x33.2.1.1.ls)) :: row (.slice x33.2.2.a hs.length x33.2.2.c) 32 32 (hs.flatMap hlist) :: dat x35.2 (Deep.leads (PS.mk x35.1.a x35.1.c x35.1.ls)) :: blk b2 (.cells (AskX.mk (ViewV.mk num (mk : Int)) had ⟨ra, hs.length, rc⟩).cells 47 (0, 0)) :: H = H' ∧ i ≤ ps.length ∧ (KeptOK had ks) ∧ (RKOK ks2) ∧ (ks.map (fun x => x.w) = worldsF (keyT 16) hs mk had ((ps.map BS.l).take i)) ∧ (ks2.map (fun x => x.w) = worldsF (keyT 16) hs mk had ((ps.map BS.l).take i))) (fun us => match us with | .int _ i :: _ => ps.length - i.toNat | _ => 0) ⟨0, none, 0, [], [], none, 0, [], rfl, rfl, by omega, KeptOK.nil had, ⟨by decide, fun _ h => by cases h⟩, worlds0.symm, worlds0.symm⟩ (fun w hw => by
  have h0 : St w0 (blk x33.1.1 (.cells (FetchV.mk (KeysV.mk ⟨x33.2.1.1.a, x33.2.1.1.c, x33.2.1.1.ls⟩ ⟨x33.2.2.a, hs.length, x33.2.2.c⟩) (ViewV.mk num (mk : Int)) had (some x33.1.2.1) (some x33.1.2.2) ⟨none, 0, 0⟩).cells 111 (0, 0)) :: blk b41 (.cells (RFetchV.mk (KeysV.mk ⟨x35.1.a, x35.1.c, x35.1.ls⟩ ⟨ra, hs.length, rc⟩) (ViewV.mk num (mk : Int)) had ⟨none, 0, 0⟩ ⟨none, 0, 0⟩).cells 55 (0, 0)) :: blk x33.1.2.1 (mapO encKm encBo [] 0) :: blk x33.1.2.2 (mapO encKt encU [] 0) :: dat x33.2.1.2 (Deep.leads (PS.mk x33.2.1.1.a x33.2.1.1.c x33.2.1.1.ls)) :: row (.slice x33.2.2.a hs.length x33.2.2.c) 32 32 (hs.flatMap hlist) :: dat x35.2 (Deep.leads (PS.mk x35.1.a x35.1.c x35.1.ls)) :: blk b2 (.cells (AskX.mk (ViewV.mk num (mk : Int)) had ⟨ra, hs.length, rc⟩).cells 47 (0, 0)) :: H) w := SB w hw
  have h1 := ((h0.addNil 75 103).addNil 119 135).datNil
  exact h1) ?_
 rintro τ0 _ _  ⟨i, la, lc, ks, fp, la2, lc2, ks2, rfl, rfl, hi0, hK, hK2, hw1, hw2⟩ _
 refine T2 (zy (Qt_lss rfl rfl) (TX (zS (zC rfl (fun h45 => ?_) (fun h45 => ?_)))))
 ·
  have p45 := cL h45
  have hki : i < ps.length := by omega
  have hrk : RdB w0 H (.slice ps[i].a ps[i].l.length ps[i].c) ps[i].l := pke.get (List.getElem_mem hki)
  have hpk := hpe _ (List.getElem_mem hki)
  refine zk (zx (zS (zB (T2 (zy (Qt_indexR rfl rfl (by omega) (by simp; omega)) (zy (Qt_loadR (.slice _ _ _) rfl (vals_get _ _ hki)) (Qas rfl rfl (T4 (zy (zm (.pointer _) rfl) (Qms rfl rfl (TL_drop (blk x33.1.1 (.cells (FetchV.mk (KeysV.mk ⟨x33.2.1.1.a, x33.2.1.1.c, x33.2.1.1.ls⟩ ⟨x33.2.2.a, hs.length, x33.2.2.c⟩) (ViewV.mk num (mk : Int)) had (some x33.1.2.1) (some x33.1.2.2) ⟨la, ks.length, lc⟩).cells 111 (0, 0)) :: row (.slice la (ks).length lc) 119 135 ((ks).flatMap KeptV.list) :: dat fp ⟨(ks).map (fun k => k.last.batch), (ks).map (fun k => k.last.parts), []⟩ :: blk b41 (.cells (RFetchV.mk (KeysV.mk ⟨x35.1.a, x35.1.c, x35.1.ls⟩ ⟨ra, hs.length, rc⟩) (ViewV.mk num (mk : Int)) had ⟨none, 0, 0⟩ ⟨la2, ks2.length, lc2⟩).cells 55 (0, 0)) :: row (.slice la2 (ks2).length lc2) 75 103 ((ks2).flatMap RKeptV.list) :: blk x33.1.2.1 (mapO encKm encBo [] 0) :: blk x33.1.2.2 (mapO encKt encU [] 0) :: dat x33.2.1.2 (Deep.leads (PS.mk x33.2.1.1.a x33.2.1.1.c x33.2.1.1.ls)) :: row (.slice x33.2.2.a hs.length x33.2.2.c) 32 32 (hs.flatMap hlist) :: dat x35.2 (Deep.leads (PS.mk x35.1.a x35.1.c x35.1.ls)) :: blk b2 (.cells (AskX.mk (ViewV.mk num (mk : Int)) had ⟨ra, hs.length, rc⟩).cells 47 (0, 0)) :: H) ?_)))))))))))
  refine ze rfl (zc (snapX_c (p := x33.1.1) (num := num) (mk := mk) hmk (had := had) (mr := some x33.1.2.1) (wr := some x33.1.2.2) (la := la) (lc := lc) (ks := ks) (fp := fp) (sa := x33.2.1.1.a) (sc := x33.2.1.1.c) (ls := x33.2.1.1.ls) (key16 hk1).1 (ra := x33.2.2.a) (rq := x33.2.2.c) (rs := hs) (by omega) hK (a := ps[i].a) (l := ps[i].l) (c := ps[i].c) (by omega)) rfl (fun x50 => ?_))
  rw [hk1]
  refine TL_pure (fun h50 => ?_)
  have hW1 := worlds_next hki hw1 h50.1
  refine TX (zR (zy (zm (.pointer _) rfl) (Qms rfl rfl (TL_drop (blk b41 (.cells (RFetchV.mk (KeysV.mk ⟨x35.1.a, x35.1.c, x35.1.ls⟩ ⟨ra, hs.length, rc⟩) (ViewV.mk num (mk : Int)) had ⟨none, 0, 0⟩ ⟨la2, ks2.length, lc2⟩).cells 55 (0, 0)) :: row (.slice la2 (ks2).length lc2) 75 103 ((ks2).flatMap RKeptV.list) :: row (.slice x50.la (x50.ks).length x50.lc) 119 135 ((x50.ks).flatMap KeptV.list) :: blk x33.1.1 (.cells (FetchV.mk (KeysV.mk ⟨x33.2.1.1.a, x33.2.1.1.c, x33.2.1.1.ls⟩ ⟨x33.2.2.a, hs.length, x33.2.2.c⟩) (ViewV.mk num (mk : Int)) had (some x33.1.2.1) (some x33.1.2.2) ⟨x50.la, x50.ks.length, x50.lc⟩).cells 111 (0, 0)) :: dat x50.fp ⟨(x50.ks).map (fun k => k.last.batch), (x50.ks).map (fun k => k.last.parts), []⟩ :: blk x33.1.2.1 (mapO encKm encBo [] 0) :: blk x33.1.2.2 (mapO encKt encU [] 0) :: dat x33.2.1.2 (Deep.leads (PS.mk x33.2.1.1.a x33.2.1.1.c x33.2.1.1.ls)) :: row (.slice x33.2.2.a hs.length x33.2.2.c) 32 32 (hs.flatMap hlist) :: dat x35.2 (Deep.leads (PS.mk x35.1.a x35.1.c x35.1.ls)) :: blk b2 (.cells (AskX.mk (ViewV.mk num (mk : Int)) had ⟨ra, hs.length, rc⟩).cells 47 (0, 0)) :: H) ?_))))
  refine ze rfl (zc (rSnapX_c (p := b41) (num := num) (mk := mk) hmk (had := had) (fm := ⟨none, 0, 0⟩) (la := la2) (lc := lc2) (ks := ks2) (sa := x35.1.a) (sc := x35.1.c) (ls := x35.1.ls) (key16 h35).1 (ra := ra) (rq := rc) (rs := hs) (by omega) hK2 (a := ps[i].a) (l := ps[i].l) (c := ps[i].c) (by omega)) rfl (fun x53 => ?_))
  rw [h35]
  refine TL_pure (fun h53 => ?_)
  have hW2 := worlds_next hki hw2 h53.1
  refine zz (X_block (zx (zR (zy (zj rfl rfl) (Qmi rfl rfl (zz ?_))))))
  apply X_loop
  case ha => exact zA
  case hI => exact ⟨i + 1, x50.la, x50.lc, x50.ks, x50.fp, x53.la, x53.lc, x53.ks, rfl, rfl, by omega, h50.2, h53.2, hW1, hW2⟩
  case hm => exact by show ps.length - (i + 1 : Int).toNat < ps.length - (i : Int).toNat; omega
  case hH => exact SB
 have p45 := cL h45
 refine zY (zG (zW (zE (zx (zS (T2 (Qms rfl rfl (zy (zL rfl Tryz.underlying28) (Qmi rfl rfl (TX (zB ?_)))))))))))
 refine T_loop [10, 57, 58, 59, 60, 61, 62, 63, 64, 65, 66, 67] [57] (fun us H' => ∃ (m : Nat) (pm : PMX) (cm : Nat) (ts : TMX) (d : Nat) (ma : Option Addr) (mc : Nat) (ms : List MsgV), us = [.int .i64 (m : Int)] ∧ row (.slice ma (ms).length mc) 82 39 ((ms).flatMap MsgV.list) :: dat fp ⟨(ks).map (fun k => k.last.batch), (ks).map (fun k => k.last.parts), []⟩ :: row (.slice la (ks).length lc) 119 135 ((ks).flatMap KeptV.list) :: row (.slice la2 (ks2).length lc2) 75 103 ((ks2).flatMap RKeptV.list) :: blk x33.1.1 (.cells (FetchV.mk (KeysV.mk ⟨x33.2.1.1.a, x33.2.1.1.c, x33.2.1.1.ls⟩ ⟨x33.2.2.a, hs.length, x33.2.2.c⟩) (ViewV.mk num (mk : Int)) had (some x33.1.2.1) (some x33.1.2.2) ⟨la, ks.length, lc⟩).cells 111 (0, 0)) :: blk b41 (.cells (RFetchV.mk (KeysV.mk ⟨x35.1.a, x35.1.c, x35.1.ls⟩ ⟨ra, hs.length, rc⟩) (ViewV.mk num (mk : Int)) had ⟨ma, ms.length, mc⟩ ⟨la2, ks2.length, lc2⟩).cells 55 (0, 0)) :: blk x33.1.2.1 (mapO encKm encBo pm cm) :: blk x33.1.2.2 (mapO encKt encU ts d) :: dat x33.2.1.2 (Deep.leads (PS.mk x33.2.1.1.a x33.2.1.1.c x33.2.1.1.ls)) :: row (.slice x33.2.2.a hs.length x33.2.2.c) 32 32 (hs.flatMap hlist) :: dat x35.2 (Deep.leads (PS.mk x35.1.a x35.1.c x35.1.ls)) :: blk b2 (.cells (AskX.mk (ViewV.mk num (mk : Int)) had ⟨ra, hs.length, rc⟩).cells 47 (0, 0)) :: H = H' ∧ m ≤ ps.length ∧ (IsX (marksF (keyT 16) mk had ((ps.map BS.l).take m)) pm cm ts d) ∧ (ms.map trip = marksF (keyT 16) mk had ((ps.map BS.l).take m))) (fun us => match us with | .int _ i :: _ => ps.length - i.toNat | _ => 0) ⟨0, [], 0, [], 0, none, 0, [], rfl, rfl, by omega, by rw [marks0]; exact IsX.nil, marks0.symm⟩ (fun w hw => by
  have h0 : St w0 (dat fp ⟨(ks).map (fun k => k.last.batch), (ks).map (fun k => k.last.parts), []⟩ :: row (.slice la (ks).length lc) 119 135 ((ks).flatMap KeptV.list) :: row (.slice la2 (ks2).length lc2) 75 103 ((ks2).flatMap RKeptV.list) :: blk x33.1.1 (.cells (FetchV.mk (KeysV.mk ⟨x33.2.1.1.a, x33.2.1.1.c, x33.2.1.1.ls⟩ ⟨x33.2.2.a, hs.length, x33.2.2.c⟩) (ViewV.mk num (mk : Int)) had (some x33.1.2.1) (some x33.1.2.2) ⟨la, ks.length, lc⟩).cells 111 (0, 0)) :: blk b41 (.cells (RFetchV.mk (KeysV.mk ⟨x35.1.a, x35.1.c, x35.1.ls⟩ ⟨ra, hs.length, rc⟩) (ViewV.mk num (mk : Int)) had ⟨none, 0, 0⟩ ⟨la2, ks2.length, lc2⟩).cells 55 (0, 0)) :: blk x33.1.2.1 (mapO encKm encBo [] 0) :: blk x33.1.2.2 (mapO encKt encU [] 0) :: dat x33.2.1.2 (Deep.leads (PS.mk x33.2.1.1.a x33.2.1.1.c x33.2.1.1.ls)) :: row (.slice x33.2.2.a hs.length x33.2.2.c) 32 32 (hs.flatMap hlist) :: dat x35.2 (Deep.leads (PS.mk x35.1.a x35.1.c x35.1.ls)) :: blk b2 (.cells (AskX.mk (ViewV.mk num (mk : Int)) had ⟨ra, hs.length, rc⟩).cells 47 (0, 0)) :: H) w := SB w hw
  have h1 := h0.addNil 82 39
  exact h1) ?_
 rintro τ1 _ _  ⟨m, pm, cm, ts, d, ma, mc, ms, rfl, rfl, hm0, hI, hM⟩ _
 refine T2 (zy (Qt_lss rfl rfl) (TX (zS (zC rfl (fun h58 => ?_) (fun h58 => ?_)))))
 ·
  have p58 := cL h58
  have hkm : m < ps.length := by omega
  have hrk : RdB w0 H (.slice ps[m].a ps[m].l.length ps[m].c) ps[m].l := pke.get (List.getElem_mem hkm)
  have hpk := hpe _ (List.getElem_mem hkm)
  refine zk (zx (zS (zB (T2 (zy (Qt_indexR rfl rfl (by omega) (by simp; omega)) (zy (Qt_loadR (.slice _ _ _) rfl (vals_get _ _ hkm)) (Qas rfl rfl (T4 (zy (zm (.pointer _) rfl) (Qms rfl rfl (TL_drop (blk x33.1.1 (.cells (FetchV.mk (KeysV.mk ⟨x33.2.1.1.a, x33.2.1.1.c, x33.2.1.1.ls⟩ ⟨x33.2.2.a, hs.length, x33.2.2.c⟩) (ViewV.mk num (mk : Int)) had (some x33.1.2.1) (some x33.1.2.2) ⟨la, ks.length, lc⟩).cells 111 (0, 0)) :: blk x33.1.2.1 (mapO encKm encBo pm cm) :: blk x33.1.2.2 (mapO encKt encU ts d) :: row (.slice ma (ms).length mc) 82 39 ((ms).flatMap MsgV.list) :: dat fp ⟨(ks).map (fun k => k.last.batch), (ks).map (fun k => k.last.parts), []⟩ :: row (.slice la (ks).length lc) 119 135 ((ks).flatMap KeptV.list) :: row (.slice la2 (ks2).length lc2) 75 103 ((ks2).flatMap RKeptV.list) :: blk b41 (.cells (RFetchV.mk (KeysV.mk ⟨x35.1.a, x35.1.c, x35.1.ls⟩ ⟨ra, hs.length, rc⟩) (ViewV.mk num (mk : Int)) had ⟨ma, ms.length, mc⟩ ⟨la2, ks2.length, lc2⟩).cells 55 (0, 0)) :: dat x33.2.1.2 (Deep.leads (PS.mk x33.2.1.1.a x33.2.1.1.c x33.2.1.1.ls)) :: row (.slice x33.2.2.a hs.length x33.2.2.c) 32 32 (hs.flatMap hlist) :: dat x35.2 (Deep.leads (PS.mk x35.1.a x35.1.c x35.1.ls)) :: blk b2 (.cells (AskX.mk (ViewV.mk num (mk : Int)) had ⟨ra, hs.length, rc⟩).cells 47 (0, 0)) :: H) ?_)))))))))))
  refine ze rfl (zc (markX_c (p := x33.1.1) (r1 := x33.1.2.1) (r2 := x33.1.2.2) (num := num) (mk := mk) hmk (had := had) (fl := ⟨la, ks.length, lc⟩) hI (sa := x33.2.1.1.a) (sc := x33.2.1.1.c) (ls := x33.2.1.1.ls) (key16 hk1).1 (ra := x33.2.2.a) (rq := x33.2.2.c) (rs := hs) (a := ps[m].a) (l := ps[m].l) (lc := ps[m].c) (by omega)) rfl (fun x63 => ?_))
  rw [hk1, marks_next hkm]
  refine TL_pure (fun h63 => ?_)
  refine TX (zR (zy (zm (.pointer _) rfl) (Qms rfl rfl (TL_drop (blk b41 (.cells (RFetchV.mk (KeysV.mk ⟨x35.1.a, x35.1.c, x35.1.ls⟩ ⟨ra, hs.length, rc⟩) (ViewV.mk num (mk : Int)) had ⟨ma, ms.length, mc⟩ ⟨la2, ks2.length, lc2⟩).cells 55 (0, 0)) :: row (.slice ma (ms).length mc) 82 39 ((ms).flatMap MsgV.list) :: blk x33.1.1 (.cells (FetchV.mk (KeysV.mk ⟨x33.2.1.1.a, x33.2.1.1.c, x33.2.1.1.ls⟩ ⟨x33.2.2.a, hs.length, x33.2.2.c⟩) (ViewV.mk num (mk : Int)) had (some x33.1.2.1) (some x33.1.2.2) ⟨la, ks.length, lc⟩).cells 111 (0, 0)) :: blk x33.1.2.1 (mapO encKm encBo x63.ps x63.c) :: blk x33.1.2.2 (mapO encKt encU x63.ts x63.d) :: dat fp ⟨(ks).map (fun k => k.last.batch), (ks).map (fun k => k.last.parts), []⟩ :: row (.slice la (ks).length lc) 119 135 ((ks).flatMap KeptV.list) :: row (.slice la2 (ks2).length lc2) 75 103 ((ks2).flatMap RKeptV.list) :: dat x33.2.1.2 (Deep.leads (PS.mk x33.2.1.1.a x33.2.1.1.c x33.2.1.1.ls)) :: row (.slice x33.2.2.a hs.length x33.2.2.c) 32 32 (hs.flatMap hlist) :: dat x35.2 (Deep.leads (PS.mk x35.1.a x35.1.c x35.1.ls)) :: blk b2 (.cells (AskX.mk (ViewV.mk num (mk : Int)) had ⟨ra, hs.length, rc⟩).cells 47 (0, 0)) :: H) ?_))))
  refine ze rfl (zc (rMarkX_c (p := b41) (num := num) (mk := mk) hmk (had := had) (fl := ⟨la2, ks2.length, lc2⟩) (ma := ma) (mc := mc) (ms := ms) (by have := marks_few hM hp30; omega) (sa := x35.1.a) (sc := x35.1.c) (ls := x35.1.ls) (key16 h35).1 (ra := ra) (rq := rc) (rs := hs) (a := ps[m].a) (l := ps[m].l) (c := ps[m].c) (by omega)) rfl (fun x66 => ?_))
  rw [hM, h35, marks_next hkm]
  refine TL_pure (fun h66 => ?_)
  refine zz (X_block (zx (zR (zy (zj rfl rfl) (Qmi rfl rfl (zz ?_))))))
  apply X_loop
  case ha => exact zA
  case hI => exact ⟨m + 1, x63.ps, x63.c, x63.ts, x63.d, x66.ma, x66.mc, x66.ms, rfl, rfl, by omega, h63, h66⟩
  case hm => exact by show ps.length - (m + 1 : Int).toNat < ps.length - (m : Int).toNat; omega
  case hH => exact SB
 have p58 := cL h58
 have hm30 := marks_few hM hp30
 refine zY (zG (zW (zE (zx (T2 (zy (zm (.pointer _) rfl) (ze rfl (zc (bestX_c (p := x33.1.1) (r2 := x33.1.2.2) (d := d) (num := num) (mk := mk) hmk (had := had) (la := la) (lc := lc) (ks := ks) (M := marksF (keyT 16) mk had ((ps.map BS.l).take m)) (ts := ts) hI.ht hI.ok hK (fun k hk => ⟨fun w hw => RdL.own.tail'.b _ (List.mem_map.2 ⟨k, hk, rfl⟩) w hw⟩) (fun k hk => ⟨fun w hw => RdL.own.tail'.p _ (List.mem_map.2 ⟨k, hk, rfl⟩) w hw⟩) (fun k hk => ⟨fun x hx w hw => RdL.own.tail'.e _ (List.mem_map.2 ⟨k, hk, rfl⟩) x hx w hw⟩)) rfl (fun x70 => ?_)))))))))
 refine TL_pure (fun h70 => ?_)
 rw [← hM] at h70
 refine zy (zm (.tuple _) rfl) (zy (Qt_extract rfl) (zy (Qt_extract rfl) (zy (Qt_extract rfl) (ze rfl (Ef_allocN (fun b11 => ?_))))))
 refine ze rfl (Ef_allocN (fun b12 => ?_))
 refine zN (zs rfl rfl (zN (zs rfl rfl (Qab rfl rfl (T4 (Qai rfl rfl (TX (zS (T2 (Qmi rfl rfl (TX (zB ?_))))))))))))
 refine T_loop [14, 15, 74, 75, 76, 77, 78, 79, 80, 81, 82, 83, 84, 85, 86] [74, 14] (fun us H' => ∃ (j : Nat), us = [.int .i64 (j : Int), .int .i64 ((bitsB mk j : Nat) : Int)] ∧ blk b11 (.cells x70.w.cells 67 (0, 0)) :: blk b12 (.cells x70.last.cells 69 (0, 0)) :: row (.slice ma (ms).length mc) 82 39 ((ms).flatMap MsgV.list) :: dat fp ⟨(ks).map (fun k => k.last.batch), (ks).map (fun k => k.last.parts), []⟩ :: row (.slice la (ks).length lc) 119 135 ((ks).flatMap KeptV.list) :: row (.slice la2 (ks2).length lc2) 75 103 ((ks2).flatMap RKeptV.list) :: blk x33.1.1 (.cells (FetchV.mk (KeysV.mk ⟨x33.2.1.1.a, x33.2.1.1.c, x33.2.1.1.ls⟩ ⟨x33.2.2.a, hs.length, x33.2.2.c⟩) (ViewV.mk num (mk : Int)) had (some x33.1.2.1) (some x33.1.2.2) ⟨la, ks.length, lc⟩).cells 111 (0, 0)) :: blk b41 (.cells (RFetchV.mk (KeysV.mk ⟨x35.1.a, x35.1.c, x35.1.ls⟩ ⟨ra, hs.length, rc⟩) (ViewV.mk num (mk : Int)) had ⟨ma, ms.length, mc⟩ ⟨la2, ks2.length, lc2⟩).cells 55 (0, 0)) :: blk x33.1.2.1 (mapO encKm encBo pm cm) :: blk x33.1.2.2 (mapO encKt encU ts d) :: dat x33.2.1.2 (Deep.leads (PS.mk x33.2.1.1.a x33.2.1.1.c x33.2.1.1.ls)) :: row (.slice x33.2.2.a hs.length x33.2.2.c) 32 32 (hs.flatMap hlist) :: dat x35.2 (Deep.leads (PS.mk x35.1.a x35.1.c x35.1.ls)) :: blk b2 (.cells (AskX.mk (ViewV.mk num (mk : Int)) had ⟨ra, hs.length, rc⟩).cells 47 (0, 0)) :: H = H' ∧ j ≤ 16) (fun us => match us with | .int _ i :: _ => 16 - i.toNat | _ => 0) ⟨0, by rw [bits0]; rfl, rfl, by omega⟩ SB ?_
 rintro τ2 _ _  ⟨j, rfl, rfl, hj0⟩ _
 refine T2 (zy (Qt_lss rfl rfl) (TX (zS (zC rfl (fun h75 => ?_) (fun h75 => ?_)))))
 ·
  have p75 := cL h75
  have hj : j < 16 := by omega
  refine zk (zx (zS (zB (T2 (Qmi rfl rfl (Qai rfl rfl (TX (zR (Qmi rfl rfl (zy (zf 0 rfl rfl) (zy (zf 1 rfl rfl) (zy (zl rfl) (Qmi rfl rfl (zy (Qt_shrN j rfl rfl (by show j ≤ 16; omega)) ?_))))))))))))))
  refine zy (Qt_andN (b := 1) rfl rfl rfl (by have := Nat.div_le_self mk (2 ^ j); show _ < 2 ^ 16; omega) (by decide)) ?_
  obtain ⟨bt, hbt⟩ : ∃ bt, bt = (mk / 2 ^ j &&& 1) := ⟨_, rfl⟩
  rw [← hbt]
  have hb1 : bt ≤ 1 := by rw [hbt]; exact Nat.and_le_right
  have hbl := bits_le mk j
  refine zy (Qt_conv_i64 rfl rfl Tryz.underlying3 (by omega) (by omega)) (zy (zj rfl rfl) ?_)
  rw [show ((bitsB mk j : Nat) : Int) + ((bt : Nat) : Int) = ((bitsB mk (j + 1) : Nat) : Int) from by rw [bits_step, ← hbt]; omega]
  refine Qai rfl rfl (zz (X_block (zx (zR (zy (zj rfl rfl) (Qmi rfl rfl (zz ?_)))))))
  apply X_loop
  case ha => exact zA
  case hI => exact ⟨j + 1, rfl, rfl, by omega⟩
  case hm => exact by show 16 - (j + 1 : Int).toNat < 16 - (j : Int).toNat; omega
  case hH => exact SB
 have p75 := cL h75
 have hn : bitsB mk j = ones16 mk := by rw [show j = 16 by omega]; exact bits_16 hmk
 have hn16 : bitsB mk j ≤ 16 := by have := bits_le mk j; omega
 refine zY (zG (zW (zE (zx (zS (T2 (Qmb rfl rfl (zy (Qt_not rfl) (TX (zC rfl (fun h88 => ?_) (fun h88 => ?_)))))))))))
 ·
  have p88 := cL h88
  have his : x70.is = false := by simpa using h88
  obtain ⟨hz, hno⟩ := h70.1 his
  have hno2 : ∀ v ∈ ks2, ¬ Qual num mk (ms.map trip) v.w := fun v hv => by obtain ⟨k, hk, he⟩ := same_worlds (hw1.trans hw2.symm) hv; rw [← he]; exact hno k hk
  refine T2 (zy (zn rfl rfl) (zy (zw [] rfl) (zy (Qt_agg_eqlH rfl rfl (eqZeroW hz) (by kernel_rfl)) (Qmb rfl rfl (TL_split 92 rfl (fun h92 => ?_) (fun h92 => ?_))))))
  ·
   have p92 := cL h92
   refine zt rfl rfl h92 (zy (zm (.pointer _) rfl) (zt rfl rfl h92 (ze rfl (zc (rBest_c (p := b41) (num := num) (mk := mk) hmk (had := had) (ma := ma) (mc := mc) (ms := ms) (la := la2) (lc := lc2) (ks := ks2) (by omega) hK2 hno2) rfl (fun x94 => ?_)))))
   refine zt rfl rfl h92 (zy (Qt_lss rfl rfl) (zy (zT (.bool _) rfl h92 rfl) (Qab rfl rfl (TX (zQ (zr ?_))))))
   exact zX () [.bool true] Tryz.results4 ⟨congrArg Value.bool (by decide), trivial⟩ rfl SB
  have p92 := cL h92
  exact absurd h92 (by decide)
 have p88 := cL h88
 have hlen2 := hK2.len
 have his : x70.is = true := by simpa using h88
 obtain ⟨kb, hkb, hwe, hne, hql, hmax⟩ := h70.2 his
 have hg : GoodW x70.w := by rw [hwe]; exact hK.good _ hkb
 have hslot : x70.last.n = x70.w.slot := by rw [hne, hK.num _ hkb, hwe]
 have habv : had < x70.w.slot := by rw [hwe]; exact hK.above _ hkb
 have hq1 := qual_iff.1 hql
 rw [← hwe, ← hn] at hq1
 obtain ⟨hrt, hq2⟩ := hq1
 have hmax2 : ∀ v ∈ ks2, (bitsB mk j - 1) / 3 < cntM (ms.map trip) v.w → v.w.slot ≤ x70.w.slot := fun v hv hc => by obtain ⟨k, hk, he⟩ := same_worlds (hw1.trans hw2.symm) hv; rw [hwe, ← he]; exact hmax k hk (qual_iff.2 ⟨hrt, by rw [← hn, he]; exact hc⟩)
 refine zk (zx (zS (T2 (zy (zm (.pointer _) rfl) (zy (zn rfl rfl) (ze rfl (zc (rMarked_c (p := b41) (ma := ma) (mc := mc) (ms := ms) (by omega) (v := x70.w) (hg)) rfl (fun x99 => ?_))))))))
 refine Qmi rfl rfl (zy (zh rfl rfl) (zy (Qt_val (Qt_quo rfl rfl (by decide)) (congrArg (Value.int .i64) (third hn16))) (zy (Qt_leq rfl rfl) (Qmb rfl rfl (TL_split 104 rfl (fun h104 => ?_) (fun h104 => ?_))))))
 ·
  have p104 := cL h104
  exact absurd p104 (by omega)
 have p104 := cL h104
 refine zt rfl rfl h104 (zy (zf 0 rfl rfl) (zt rfl rfl h104 (zy (zl rfl) (zt rfl rfl h104 (zy (zf 2 rfl rfl) (zt rfl rfl h104 (zy (zl rfl) (zt rfl rfl h104 (zy (Qt_leq rfl rfl) (zy (zF (.bool _) rfl h104 rfl) (Qmb rfl rfl ?_)))))))))))
 refine TL_split 111 rfl (fun h111 => ?_) (fun h111 => ?_)
 ·
  have p111 := cL h111
  exact absurd p111 (by omega)
 have p111 := cL h111
 refine zt rfl rfl h111 (zy (zf 0 rfl rfl) (zt rfl rfl h111 (zy (zl rfl) (zt rfl rfl h111 (zy (zf 0 rfl rfl) (zt rfl rfl h111 (zy (zl rfl) (zt rfl rfl h111 (zy (Qt_neq rfl rfl) (zy (zF (.bool _) rfl h111 rfl) (TX ?_)))))))))))
 refine zC rfl (fun h117 => ?_) (fun h117 => ?_)
 ·
  have p117 := cL h117
  exact absurd hslot (by simpa using h117)
 have p117 := cL h117
 refine zk (zx (zS (T2 (zy (zm (.pointer _) rfl) (zy (Qt_nilCheck rfl) (zy (zf 6 rfl rfl) (zy (zl rfl) (zy (zL rfl Tryz.underlying53) (Qmi rfl rfl (TX (zB ?_)))))))))))
 refine T_loop [4, 16, 123, 124, 125, 126, 127, 128, 129, 130, 131, 132, 133, 134, 135, 136, 137, 138, 139, 140, 141, 142, 143, 144, 145, 146, 147, 148, 149, 150, 151, 152, 153, 154] [123] (fun us H' => ∃ (q : Nat), us = [.int .i64 (q : Int)] ∧ blk b11 (.cells x70.w.cells 67 (0, 0)) :: blk b12 (.cells x70.last.cells 69 (0, 0)) :: row (.slice ma (ms).length mc) 82 39 ((ms).flatMap MsgV.list) :: dat fp ⟨(ks).map (fun k => k.last.batch), (ks).map (fun k => k.last.parts), []⟩ :: row (.slice la (ks).length lc) 119 135 ((ks).flatMap KeptV.list) :: row (.slice la2 (ks2).length lc2) 75 103 ((ks2).flatMap RKeptV.list) :: blk x33.1.1 (.cells (FetchV.mk (KeysV.mk ⟨x33.2.1.1.a, x33.2.1.1.c, x33.2.1.1.ls⟩ ⟨x33.2.2.a, hs.length, x33.2.2.c⟩) (ViewV.mk num (mk : Int)) had (some x33.1.2.1) (some x33.1.2.2) ⟨la, ks.length, lc⟩).cells 111 (0, 0)) :: blk b41 (.cells (RFetchV.mk (KeysV.mk ⟨x35.1.a, x35.1.c, x35.1.ls⟩ ⟨ra, hs.length, rc⟩) (ViewV.mk num (mk : Int)) had ⟨ma, ms.length, mc⟩ ⟨la2, ks2.length, lc2⟩).cells 55 (0, 0)) :: blk x33.1.2.1 (mapO encKm encBo pm cm) :: blk x33.1.2.2 (mapO encKt encU ts d) :: dat x33.2.1.2 (Deep.leads (PS.mk x33.2.1.1.a x33.2.1.1.c x33.2.1.1.ls)) :: row (.slice x33.2.2.a hs.length x33.2.2.c) 32 32 (hs.flatMap hlist) :: dat x35.2 (Deep.leads (PS.mk x35.1.a x35.1.c x35.1.ls)) :: blk b2 (.cells (AskX.mk (ViewV.mk num (mk : Int)) had ⟨ra, hs.length, rc⟩).cells 47 (0, 0)) :: H = H' ∧ q ≤ ks2.length) (fun us => match us with | .int _ i :: _ => ks2.length - i.toNat | _ => 0) ⟨0, rfl, rfl, by omega⟩ SB ?_
 rintro τ3 _ _  ⟨q, rfl, rfl, hq0⟩ _
 refine T2 (zy (Qt_lss rfl rfl) (TX (zS (zC rfl (fun h124 => ?_) (fun h124 => ?_)))))
 ·
  have p124 := cL h124
  have hq : q < ks2.length := by omega
  refine zk (zx (zS (zB (T2 (Qmi rfl rfl (Qai rfl rfl (TX (zS ?_))))))))
  refine zD (blk b11 (.cells x70.w.cells 67 (0, 0)) :: blk b12 (.cells x70.last.cells 69 (0, 0)) :: row (.slice ma (ms).length mc) 82 39 ((ms).flatMap MsgV.list) :: dat fp ⟨(ks).map (fun k => k.last.batch), (ks).map (fun k => k.last.parts), []⟩ :: row (.slice la (ks).length lc) 119 135 ((ks).flatMap KeptV.list) :: row (.slice la2 (ks2).length lc2) 75 103 ((ks2).flatMap RKeptV.list) :: blk x33.1.1 (.cells (FetchV.mk (KeysV.mk ⟨x33.2.1.1.a, x33.2.1.1.c, x33.2.1.1.ls⟩ ⟨x33.2.2.a, hs.length, x33.2.2.c⟩) (ViewV.mk num (mk : Int)) had (some x33.1.2.1) (some x33.1.2.2) ⟨la, ks.length, lc⟩).cells 111 (0, 0)) :: blk b41 (.cells (RFetchV.mk (KeysV.mk ⟨x35.1.a, x35.1.c, x35.1.ls⟩ ⟨ra, hs.length, rc⟩) (ViewV.mk num (mk : Int)) had ⟨ma, ms.length, mc⟩ ⟨la2, ks2.length, lc2⟩).cells 55 (0, 0)) :: blk x33.1.2.1 (mapO encKm encBo pm cm) :: blk x33.1.2.2 (mapO encKt encU ts d) :: dat x33.2.1.2 (Deep.leads (PS.mk x33.2.1.1.a x33.2.1.1.c x33.2.1.1.ls)) :: row (.slice x33.2.2.a hs.length x33.2.2.c) 32 32 (hs.flatMap hlist) :: dat x35.2 (Deep.leads (PS.mk x35.1.a x35.1.c x35.1.ls)) :: blk b2 (.cells (AskX.mk (ViewV.mk num (mk : Int)) had ⟨ra, hs.length, rc⟩).cells 47 (0, 0)) :: H) [(0, true), (1, true), (2, true), (3, true), (4, true), (5, true), (6, true), (7, true), (8, true), (9, true), (10, true), (11, true), (12, true), (13, true), (14, true), (15, true), (16, true), (17, true), (18, true), (19, true), (20, true), (21, true), (23, true), (24, true), (25, true), (22, false), (26, true), (27, true)] SB (fun hns2 => ?_)
  refine zd hns2 rfl (zm (.pointer _) rfl) rfl (zd hns2 rfl (Qt_nilCheck rfl) rfl (zd hns2 rfl (zf 6 rfl rfl) rfl (zd hns2 rfl (zl rfl) rfl (zd hns2 rfl (zm (.int .i64 _) rfl) rfl (zd hns2 rfl (Qt_indexN rfl rfl (by omega) (by omega)) rfl (zd hns2 rfl (Qt_fieldR rfl 103 (rkept_pos hq)) rfl (zd hns2 rfl (Qt_fieldR rfl 103 (rkept_pos hq)) rfl (zd hns2 rfl (Qt_loadRs 103 (.int .i64 ks2[q].w.slot) rfl (rkept_slot ks2 q hq)) rfl (zd hns2 rfl (zf 0 rfl rfl) rfl (zd hns2 rfl (zl rfl) rfl (zd hns2 rfl (Qt_gtr rfl rfl) rfl ?_)))))))))))
  refine zd hns2 rfl (zm (.bool _) rfl) rfl (DL_split 138 rfl (fun h138 => ?_) (fun h138 => ?_))
  ·
   have p138 := cL h138
   refine DL_qg hns2 rfl rfl rfl h138 (zm (.pointer _) rfl) rfl (DL_qg hns2 rfl rfl rfl h138 (zm (.pointer _) rfl) rfl (DL_qg hns2 rfl rfl rfl h138 (Qt_nilCheck rfl) rfl (DL_qg hns2 rfl rfl rfl h138 (zf 6 rfl rfl) rfl (DL_qg hns2 rfl rfl rfl h138 (zl rfl) rfl (DL_qg hns2 rfl rfl rfl h138 (zm (.int .i64 _) rfl) rfl (DL_qg hns2 rfl rfl rfl h138 (Qt_indexN rfl rfl (by omega) (by omega)) rfl (DL_qg hns2 rfl rfl rfl h138 (Qt_fieldR rfl 103 (rkept_pos hq)) rfl (DL_qg hns2 rfl rfl rfl h138 (Qt_val (Qt_loadRN 103 ks2[q].w.list rfl (rkept_w ks2 q hq) (WorldV.list_len _) (by decide)) (show Value.agg ks2[q].w.list.toArray = Value.agg ks2[q].w.cells from rfl)) rfl (DL_qg hns2 rfl rfl rfl h138 (zm (.int .i64 _) rfl) rfl ?_)))))))))
   first
    | refine DL_qg hns2 rfl rfl rfl h138 (zh rfl rfl) rfl ?_
    | refine DL_qg hns2 rfl rfl rfl h138 (Qt_subw rfl rfl) rfl ?_
   refine DL_qg hns2 rfl rfl rfl h138 (Qt_val (Qt_quo rfl rfl (by decide)) (congrArg (Value.int .i64) (third hn16))) rfl (DL_eg rfl rfl rfl h138 rfl (zc (rMarked_c (p := b41) (ma := ma) (mc := mc) (ms := ms) (by omega) (v := ks2[q].w) (hK2.good _ (List.getElem_mem hq))) rfl (fun x148 => ⟨SB, ?_⟩)))
   refine DL_qg hns2 rfl rfl rfl h138 (Qt_gtr rfl rfl) rfl (zd hns2 rfl (zT (.bool _) rfl h138 rfl) rfl (DL_nil (zx (zC rfl (fun h153 => ?_) (fun h153 => ?_)))))
   ·
    have p153 := cL h153
    exact absurd (hmax2 _ (List.getElem_mem hq) (by omega)) (by omega)
   have p153 := cL h153
   refine zk (X_block (zx (zR (zy (zj rfl rfl) (Qmi rfl rfl (zz ?_))))))
   apply X_loop
   case ha => exact zA
   case hI => exact ⟨q + 1, rfl, rfl, by omega⟩
   case hm => exact by show ks2.length - (q + 1 : Int).toNat < ks2.length - (q : Int).toNat; omega
   case hH => exact SB
  have p138 := cL h138
  refine DL_pass hns2 rfl rfl rfl h138 rfl (DL_pass hns2 rfl rfl rfl h138 rfl (DL_pass hns2 rfl rfl rfl h138 rfl (DL_pass hns2 rfl rfl rfl h138 rfl (DL_pass hns2 rfl rfl rfl h138 rfl (DL_pass hns2 rfl rfl rfl h138 rfl (DL_pass hns2 rfl rfl rfl h138 rfl (DL_pass hns2 rfl rfl rfl h138 rfl (DL_pass hns2 rfl rfl rfl h138 rfl (DL_pass hns2 rfl rfl rfl h138 rfl (DL_pass hns2 rfl rfl rfl h138 rfl (DL_pass hns2 rfl rfl rfl h138 rfl (DL_passF rfl rfl rfl h138 rfl (DL_pass hns2 rfl rfl rfl h138 rfl (zd hns2 rfl (zF (.bool _) rfl h138 rfl) rfl (DL_nil (zx (T_cond_false rfl rfl (zk (X_block (zx (zR (zy (zj rfl rfl) (Qmi rfl rfl (zz ?_))))))))))))))))))))))))
  apply X_loop
  case ha => exact zA
  case hI => exact ⟨q + 1, rfl, rfl, by omega⟩
  case hm => exact by show ks2.length - (q + 1 : Int).toNat < ks2.length - (q : Int).toNat; omega
  case hH => exact SB
 have p124 := cL h124
 refine zY (zG (zW (zE (zx (T2 (Qab rfl rfl (TX (zQ ?_))))))))
 exact zX () [.bool true] Tryz.results4 ⟨rfl, trivial⟩ rfl SB
end Go.Proofs.YtnijomppbgdmnaaGreat
