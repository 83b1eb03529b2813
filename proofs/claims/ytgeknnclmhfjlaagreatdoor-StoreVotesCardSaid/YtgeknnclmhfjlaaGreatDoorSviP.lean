/- The law StoreVotes, walked. -/
import Derived.Test.YtgeknnclmhfjlaaGreatDoorSvgP
namespace Go.Proofs.YtgeknnclmhfjlaaGreatDoor
open Go.RowKit Go.Sx
set_option maxRecDepth 100000
set_option linter.unusedSimpArgs false
set_option linter.unusedVariables false
theorem OpenP.num {w0 : World} {s : DS} {L : List VoteV} {segs : List Nat} {cf : Nat → List UInt8} (P : OpenP s L segs cf) : ∀ nm ∈ namesE s.e2, ∀ H2 : List SA, CT Tryz.prog w0 H2 62 [.string lgB, .string nm] (α := Unit) (fun _ => .int .i64 (nfB lgB nm : Int)) (fun _ => H2) := fun nm hm H2 => by
  obtain ⟨n, h1, hn, rfl⟩ := P.nums nm hm
  rw [nfB_nm hn]
  exact number_c (by decide) h1 hn
theorem sopenP_c {w0 : World} {H : List SA} {p : Nat} {s : DS} {M K : Nat} (hok : s.Ok M K) (hM : M ≤ 800000) (hK : K ≤ 1000000000) (hK2 : 2000000 ≤ K) (hlv : Live s) {L : List VoteV} {segs : List Nat} {cf : Nat → List UInt8} (P : OpenP s L segs cf) (hput : ∀ v ∈ L.map VoteV.abs, (putV v).2 = 0) (hul : (L.map VoteV.abs).length ≤ 1000000) :
    CT Tryz.prog w0 (DS.H p s H) 7 [.pointer (some ⟨p, 0, none⟩), .agg (ViewV.mk 0 ((15 : Nat) : Int)).cells] (α := SoR) (fun z => .tuple #[.pointer z.qt, .int .i64 z.e]) (fun z => pu (SopR s cf segs (L.map VoteV.abs) M K z) :: qblkO z.q z.sb p z.lo z.bp false :: blk z.sb (.cells (stateF 0 ((15 : Nat) : Int) z.st).cells 86 (0, 0)) :: lblk z.lp p lgB z.t :: lrow z.t :: BkS.H z.y z.bp (DS.H p z.s H)) :=
  sopenX_c hok hM hK hK2 hlv P.state (num := 0) (mk := 15) (by decide) right_four P.keyz P.num P.perm P.rise P.lt P.lnames P.file P.size P.tot (fun y h he => P.recs _ _ y h he) hput hul
theorem last0 : lastN ([] : List Nat) = 0 := rfl
theorem foldS_nil (cf : Nat → List UInt8) (x : Sc) : foldS cf [] x = x := rfl
theorem openP0 (r1 r2 : Nat) (n : Int) : OpenP (newS r1 r2 n) [] [] (cfL (fun _ => 0) (fun _ => []) [] []) :=
  LogF.openP (c := 0) (fs := fun _ => 0) (rc := fun _ => []) (tl := []) (nx := 1) (LogF.start (pre := lgB) (fs := fun _ => 0) (rc := fun _ => [])) GoodM.nil ⟨readE_nil, by simp⟩ (by show lastN [] ≤ 42; have : lastN [] = 0 := last0; omega) (by simp) (by decide) (fun _ => rfl) (by simp) (fun v h => by cases h)
theorem start_VI {r1 r2 : Nat} {n : Int} {cf : Nat → List UInt8} {M K : Nat} {z : SoR} (h : SopR (newS r1 r2 n) cf [] [] M K z) : z.s.Ok (M + 1100) K ∧ z.e = 0 ∧ z.qt = some ⟨z.q, 0, none⟩ ∧ z.lo = some ⟨z.lp, 0, none⟩ ∧ VI z.s z.t z.y [] 0 := by
  obtain ⟨hok, hy, ⟨-, -, k, hk, -⟩ | ⟨he, hqt, hlo, hab, w, hw, hw0, hws, hwt⟩⟩ := h
  · exact absurd hk (Nat.not_lt_zero k)
  · refine ⟨hok, he, hqt, hlo, ?_⟩
    obtain ⟨-, ⟨he4, -⟩ | ⟨-, -, ⟨-, e1, ⟨ga, gc, e2⟩, -⟩ | ⟨k, hk, -⟩⟩⟩ := hw
    · omega
    · rw [e1] at hws
      rw [e2] at hwt
      rw [← hws, ← hwt]
      refine ⟨.inl ⟨rfl, rfl, rfl, fun _ => 0, fun _ => [], LogF.start⟩, hy, by rw [hab]; exact SameD.start, fun i hi => absurd hi (Nat.not_lt_zero i), Nat.le_refl _, ?_, ?_, ?_, Nat.le_refl _, fun v h => by cases h⟩
      · show lastN [] ≤ 0; have : lastN [] = 0 := last0; omega
      · show (foldS cf [] Sc0).siz ≤ 100000; rw [foldS_nil]; decide
      · show (foldS cf [] Sc0).nx ≤ 1 + 0; rw [foldS_nil]; decide
    · exact absurd hk (Nat.not_lt_zero k)
theorem VI.fuse {s : DS} {t : LS} {y : BkS} {cl : List VoteV} {k : Nat} (h : VI s t y cl k) (n : Int) : VI (fuseS s n) t y cl k := ⟨h.lg, h.yok, h.same, h.came, h.seg, h.last, h.siz, h.nx, h.len, h.short⟩
theorem VI.pend {s : DS} {t : LS} {y : BkS} {cl : List VoteV} {k : Nat} (h : VI s t y cl k) : s.pend.length ≤ 1 := by
  rcases h.lg with ⟨-, h, -⟩ | ⟨-, ex, ⟨segs, fs, rc, nx, -, -, -, -, hp⟩, -⟩
  · rw [h]; simp
  · rcases hp with ⟨h, -⟩ | ⟨a, r, h, -⟩ <;> rw [h] <;> simp
theorem CrashX.live {s s' : DS} {N M kp : Nat} {torn cut : Int} (h : CrashX s N M kp torn cut s') : Live s' := by
  obtain ⟨e1, c1, q, fp, bs, hc, rfl⟩ := h
  exact ⟨rfl, rfl⟩
theorem takes_put {L : List VoteV} (h : ∀ i (hi : i < L.length), takeL (L.take i) L[i] = 0) : Came L := fun v hv => by
  obtain ⟨i, hi, rfl⟩ := List.getElem_of_mem hv
  exact takeL_put (h i hi)
theorem put_map {L : List VoteV} (h : Came L) : ∀ v ∈ L.map VoteV.abs, (putV v).2 = 0 := fun v hv => by
  obtain ⟨u, hu, rfl⟩ := List.mem_map.1 hv
  exact h u hu
theorem get_has {y : BkS} {a : EraV} {u : VoteD} (h : y.abs.get a = some u) : hasE y.es a = true ∧ ((getE y.es a).getD VoteV.zero).abs = u := by
  rw [BkS.get] at h
  cases hg : getE y.es a with
  | none => rw [hg] at h; cases h
  | some w => rw [hg] at h; exact ⟨by unfold hasE; rw [hg]; rfl, by simpa using h⟩
theorem told_slot {y : BkS} {L zs ds : List VoteV} (ho : y.Ok) (hs : SameD y.abs L) (hc : Came L) (ha : AllB y zs ds) : slotL zs = slotL L := by
  rw [slot_abs (all_told ho hs hc ha), all_slotL hc]
theorem told_some {y : BkS} {L zs ds : List VoteV} (ho : y.Ok) (hs : SameD y.abs L) (hc : Came L) (ha : AllB y zs ds) (h : 0 < slotL L) : 0 < zs.length := by
  rw [← told_slot ho hs hc ha] at h
  cases zs with
  | nil => exact absurd h (by decide)
  | cons z zs => simp
theorem told_lenL {y : BkS} {L zs ds : List VoteV} (ho : y.Ok) (hs : SameD y.abs L) (hc : Came L) (ha : AllB y zs ds) : zs.length ≤ 2503 := by
  have h := congrArg List.length (all_told ho hs hc ha)
  rw [List.length_map, List.length_map] at h
  have := allL_len L
  omega
attribute [local irreducible] toldB recsB nmB lastN newN sha recV worldB putV takeD foldR foldS namesE takeAll slotL regL wroteL
set_option maxHeartbeats 1000000 in
theorem storeVotes_c {w0 : World} {H : List SA} {a : Option Addr} {vs : List VoteV} {c : Nat} [hr : RdC w0 H (.slice a vs.length c) 38 (vs.flatMap VoteV.list)] [rv : RdVs w0 H vs] {n : Int} (hn : n ≤ 9223372036854775807) {kp : Nat} (hkp : kp < 18446744073709551616) {torn cut : Int} :
    CT Tryz.prog w0 (H) 3 [.slice a vs.length c, .int .i64 n, .agg (PlanV.mk (kp : Int) torn cut).cells] (α := Unit) (fun _ => .bool true) (fun _ => H) := by
  refine CT_intro Tryz.func3 rfl Tryz.ntmps3 rfl ?_
  refine T_seq ?_
  refine T_region ?_
  refine TL_e rfl (Ef_boxN rfl (fun b5 => ?_))
  refine TL_q (Qt_assign (.bool _) rfl) rfl ?_
  refine TL_nil ?_
  refine X_then ?_
  refine T_seq ?_
  refine T_seq ?_
  refine T_region ?_
  refine TL_e rfl (Ef_call (wakes21_c) rfl (fun x26 => ?_))
  refine TL_q (Qt_not rfl) rfl ?_
  refine TL_nil ?_
  refine X_then ?_
  refine T_cond rfl (fun h27 => ?_) (fun h27 => ?_)
  ·
    have p27 := h27
    try simp only [decide_eq_true_eq, decide_eq_false_iff_not, Bool.not_eq_true', Bool.not_eq_false', Option.isNone_iff_eq_none, ne_eq, Decidable.not_not, Int.not_lt, Int.not_le] at p27
    cases h27
  ·
    have p27 := h27
    try simp only [decide_eq_true_eq, decide_eq_false_iff_not, Bool.not_eq_true', Bool.not_eq_false', Option.isNone_iff_eq_none, ne_eq, Decidable.not_not, Int.not_lt, Int.not_le] at p27
    refine T_skip ?_
    refine X_then ?_
    refine T_seq ?_
    refine T_seq ?_
    refine T_region ?_
    refine TL_q (Qt_move (.slice _ _ _) rfl) rfl ?_
    refine TL_e rfl (Ef_call (long_c (vs := vs)) rfl (fun x29 => ?_))
    refine TL_nil ?_
    refine X_then ?_
    refine T_cond rfl (fun h29 => ?_) (fun h29 => ?_)
    ·
      have p29 := h29
      try simp only [decide_eq_true_eq, decide_eq_false_iff_not, Bool.not_eq_true', Bool.not_eq_false', Option.isNone_iff_eq_none, ne_eq, Decidable.not_not, Int.not_lt, Int.not_le] at p29
      refine T_seq ?_
      refine T_region ?_
      refine TL_q (Qt_assign (.bool _) rfl) rfl ?_
      refine TL_nil ?_
      refine X_then ?_
      refine T_ret ?_
      refine X_then_ret ?_
      exact X_ret () [.bool true] Tryz.results3 ⟨rfl, trivial⟩ rfl (Subs.st inferInstance)
    ·
      have p29 := h29
      try simp only [decide_eq_true_eq, decide_eq_false_iff_not, Bool.not_eq_true', Bool.not_eq_false', Option.isNone_iff_eq_none, ne_eq, Decidable.not_not, Int.not_lt, Int.not_le] at p29
      have hlg : longB (vs.map VoteV.abs) = false := h29
      have h40 := long_len hlg
      rw [List.length_map] at h40
      refine T_skip ?_
      refine X_then ?_
      refine T_seq ?_
      refine T_region ?_
      refine TL_e rfl (Ef_call (dnew_c (n := 262144)) rfl (fun x30 => ?_))
      refine TL_q (Qt_assign (.pointer _) rfl) rfl ?_
      refine TL_nil ?_
      refine X_then ?_
      refine T_seq ?_
      refine T_region ?_
      refine TL_q (Qt_move (.pointer _) rfl) rfl ?_
      refine TL_e rfl (Ef_call (four_c) rfl (fun x33 => ?_))
      have hok0 : (newS x30.2.1 x30.2.2 262144).Ok 0 2000000 := (newS_ok _ _ _).mono (by decide) (by decide)
      refine TL_e rfl (Ef_call (sopenP_c (p := x30.1) (s := (newS x30.2.1 x30.2.2 262144)) hok0 (by decide) (by decide) (by decide) ⟨rfl, rfl⟩ (openP0 _ _ _) (fun v h => by cases h) (by simp)) rfl (fun x34 => ?_))
      refine TL_pure (fun h34 => ?_)
      obtain ⟨hok34, -, hqt34, hlo34, hvi0⟩ := start_VI h34
      rw [hqt34, hlo34]
      refine TL_q (Qt_move (.tuple _) rfl) rfl ?_
      refine TL_q (Qt_extract rfl) rfl ?_
      refine TL_q (Qt_extract rfl) rfl ?_
      refine TL_q (Qt_assign (.pointer _) rfl) rfl ?_
      refine TL_q (Qt_assign (.int .i64 _) rfl) rfl ?_
      refine TL_nil ?_
      refine X_then ?_
      refine T_seq ?_
      refine T_region ?_
      refine TL_q (Qt_assign (.slice _ _ _) rfl) rfl ?_
      refine TL_nil ?_
      refine X_then ?_
      refine T_seq ?_
      refine T_region ?_
      refine TL_q (Qt_move (.pointer _) rfl) rfl ?_
      refine TL_q (Qt_move (.int .i64 _) rfl) rfl ?_
      refine TL_conv (fun w hw => (Subs.st inferInstance w hw : St w0 (DS.H x30.1 x34.s (qblkO x34.q x34.sb x30.1 (some ⟨x34.lp, 0, none⟩) x34.bp false :: lblk x34.lp x30.1 lgB x34.t :: lrow x34.t :: BkS.H x34.y x34.bp (blk x34.sb (.cells (stateF 0 ((15 : Nat) : Int) x34.st).cells 86 (0, 0)) :: blk b5 (.cells (PlanV.mk (kp : Int) torn cut).cells 25 (0, 0)) :: H))) w)) ?_
      refine TL_e rfl (Ef_call (dfuse_c (p := x30.1) (s := x34.s) (n := n)) rfl (fun x39 => ?_))
      refine TL_nil ?_
      refine X_then ?_
      refine T_seq ?_
      refine T_seq ?_
      refine T_region ?_
      refine TL_q (Qt_move (.slice _ _ _) rfl) rfl ?_
      refine TL_q (Qt_len_slice rfl Tryz.underlying22) rfl ?_
      refine TL_q (Qt_move (.int .i64 _) rfl) rfl ?_
      refine TL_nil ?_
      refine X_then ?_
      refine T_block ?_
      refine T_loop [10, 12, 42, 43, 44, 45, 46, 47, 48, 49, 50, 51, 52, 53, 54] [42, 10] (fun us H' => ∃ (k : Nat) (fu : Bool) (t : LS) (s : DS) (y : BkS) (cl : List VoteV) (ac : Option Addr) (cc : Nat), us = [.int .i64 (k : Int), .slice ac cl.length cc] ∧ SH x34.q x34.sb x30.1 x34.lp x34.bp fu t s y (row (.slice ac (cl).length cc) 44 38 ((cl).flatMap VoteV.list) :: blk x34.sb (.cells (stateF 0 ((15 : Nat) : Int) x34.st).cells 86 (0, 0)) :: blk b5 (.cells (PlanV.mk (kp : Int) torn cut).cells 25 (0, 0)) :: H) = H' ∧ k ≤ vs.length ∧ (VI s t y cl k) ∧ (s.Ok (1200 + k) 2000000) ∧ (∀ v ∈ cl, v ∈ vs)) (fun us => match us with | .int _ i :: _ => vs.length - i.toNat | _ => 0) ⟨0, false, x34.t, fuseS x34.s n, x34.y, [], none, 0, rfl, rfl, by omega, hvi0.fuse n, fuseS_ok (hok34.mono (by omega) (by omega)) hn, (fun v h => by cases h)⟩ (fun w hw => Subs.st (H' := SH x34.q x34.sb x30.1 x34.lp x34.bp false x34.t (fuseS x34.s n) x34.y (row (.slice none 0 0) 44 38 [] :: blk x34.sb (.cells (stateF 0 ((15 : Nat) : Int) x34.st).cells 86 (0, 0)) :: blk b5 (.cells (PlanV.mk (kp : Int) torn cut).cells 25 (0, 0)) :: H)) inferInstance w ((Subs.st inferInstance w hw : St w0 (SH x34.q x34.sb x30.1 x34.lp x34.bp false x34.t (fuseS x34.s n) x34.y (blk x34.sb (.cells (stateF 0 ((15 : Nat) : Int) x34.st).cells 86 (0, 0)) :: blk b5 (.cells (PlanV.mk (kp : Int) torn cut).cells 25 (0, 0)) :: H)) w).addNil 44 38)) ?_
      rintro τ0 _ _  ⟨k, fu, t, s, y, cl, ac, cc, rfl, rfl, hk0, hvi, hok, hsub⟩ _
      refine T_seq ?_
      refine T_region ?_
      refine TL_q (Qt_lss rfl rfl) rfl ?_
      refine TL_nil ?_
      refine X_then ?_
      refine T_seq ?_
      refine T_cond rfl (fun h43 => ?_) (fun h43 => ?_)
      ·
        have p43 := h43
        try simp only [decide_eq_true_eq, decide_eq_false_iff_not, Bool.not_eq_true', Bool.not_eq_false', Option.isNone_iff_eq_none, ne_eq, Decidable.not_not, Int.not_lt, Int.not_le] at p43
        have hk : k < vs.length := by omega
        refine T_skip ?_
        refine X_then ?_
        refine T_seq ?_
        refine T_block ?_
        refine T_seq ?_
        refine T_region ?_
        refine TL_q (Qt_indexN rfl rfl (by omega) (by omega)) rfl ?_
        refine TL_q (Qt_loadVote (k := k) rfl hk) rfl ?_
        refine TL_e rfl (Ef_allocN (fun b12 => ?_))
        refine TL_n (Ef_storeN rfl rfl (?_))
        refine TL_nil ?_
        refine X_then ?_
        refine T_seq ?_
        refine T_region ?_
        refine TL_q (Qt_move (.pointer _) rfl) rfl ?_
        refine TL_q (Qt_loadN rfl rfl) rfl ?_
        have hvk := List.getElem_mem hk
        have rbk := rv.b vs[k] hvk
        have rck := rv.c vs[k] hvk
        have rek := rv.e vs[k] hvk
        have hsk := small_of_long hlg _ (List.mem_map.2 ⟨_, hvk, rfl⟩)
        have hvs := hvi.seg
        have hvl := hvi.last
        have hvn := hvi.nx
        have hvc := hvi.len
        refine TL_conv (fun w hw => (Subs.st inferInstance w hw : St w0 (SH x34.q x34.sb x30.1 x34.lp x34.bp fu t s y (blk b12 (.cells vs[k].cells 44 (0, 0)) :: row (.slice ac (cl).length cc) 44 38 ((cl).flatMap VoteV.list) :: blk x34.sb (.cells (stateF 0 ((15 : Nat) : Int) x34.st).cells 86 (0, 0)) :: blk b5 (.cells (PlanV.mk (kp : Int) torn cut).cells 25 (0, 0)) :: H)) w)) ?_
        refine TL_e rfl (Ef_call (svote_c (q := x34.q) (sb := x34.sb) (p := x30.1) (lp := x34.lp) (bp := x34.bp) (fu := fu) (t := t) (s := s) (y := y) hok (by omega) (by omega) (by omega) (by omega) (by omega) hvi.siz (by omega) hvi.yok (v := vs[k]) hsk) rfl (fun x48 => ?_))
        refine TL_pure (fun h48 => ?_)
        have hst := hvi.step (by omega) hok (by omega) h48
        refine TL_q (Qt_eql rfl rfl) rfl ?_
        refine TL_nil ?_
        refine X_then ?_
        refine T_cond rfl (fun h49 => ?_) (fun h49 => ?_)
        ·
          have p49 := h49
          try simp only [decide_eq_true_eq, decide_eq_false_iff_not, Bool.not_eq_true', Bool.not_eq_false', Option.isNone_iff_eq_none, ne_eq, Decidable.not_not, Int.not_lt, Int.not_le] at p49
          rw [if_pos p49] at hst
          have hsub2 : ∀ v ∈ cl ++ [vs[k]], v ∈ vs := fun v hv => (List.mem_append.1 hv).elim (hsub v) (fun h => (by obtain rfl : v = vs[k] := (by simpa using h); exact hvk))
          refine T_region ?_
          refine TL_q (Qt_move (.slice _ _ _) rfl) rfl ?_
          refine TL_q (Qt_loadN rfl rfl) rfl ?_
          refine TL_e rfl (Ef_sliceN (m := [vs[k]].length) [.agg vs[k].cells] ([vs[k]].flatMap VoteV.list) rfl rfl rfl rfl (by simp [Value.cells, VoteV.size]) rfl rfl (fun a52 c52 => ?_))
          refine TL_e rfl (Ef_appendS VoteV.list (sv := .slice _ _ _) (xv := .slice _ _ _) (xs := cl) (ys := [vs[k]]) VoteV.list_len VoteV.list_one rfl rfl (by simp; omega) rfl rfl (fun a53 c53 => ?_))
          refine TL_q (Qt_assign (.slice _ _ _) rfl) rfl ?_
          refine TL_nil ?_
          refine X_block ?_
          refine X_then ?_
          refine T_region ?_
          first
            | refine TL_q (Qt_add rfl rfl (by omega) (by omega)) rfl ?_
            | refine TL_q (Qt_addw rfl rfl) rfl ?_
          refine TL_q (Qt_move (.int .i64 _) rfl) rfl ?_
          refine TL_nil ?_
          apply X_loop
          case ha => exact (by repeat (first | with_reducible exact agree_refl | refine agree_upd rfl ?_ | refine agree_mix rfl ?_ | refine agree_setAll rfl ?_))
          case hI => exact by first | exact ⟨k + 1, x48.fu, x48.t, x48.s, x48.y, cl ++ [vs[k]], a53, c53, rfl, rfl, by omega, hst.1, hst.2.mono (by omega) (by omega), hsub2⟩ | exact ⟨k + 1, x48.fu, x48.t, x48.s, x48.y, cl, ac, cc, rfl, rfl, by omega, hst.1, hst.2.mono (by omega) (by omega), hsub⟩
          case hm => exact by show vs.length - (k + 1 : Int).toNat < vs.length - (k : Int).toNat; omega
          case hH => exact (Subs.st inferInstance)
        ·
          have p49 := h49
          try simp only [decide_eq_true_eq, decide_eq_false_iff_not, Bool.not_eq_true', Bool.not_eq_false', Option.isNone_iff_eq_none, ne_eq, Decidable.not_not, Int.not_lt, Int.not_le] at p49
          rw [if_neg p49] at hst
          refine T_skip ?_
          refine X_block ?_
          refine X_then ?_
          refine T_region ?_
          first
            | refine TL_q (Qt_add rfl rfl (by omega) (by omega)) rfl ?_
            | refine TL_q (Qt_addw rfl rfl) rfl ?_
          refine TL_q (Qt_move (.int .i64 _) rfl) rfl ?_
          refine TL_nil ?_
          apply X_loop
          case ha => exact (by repeat (first | with_reducible exact agree_refl | refine agree_upd rfl ?_ | refine agree_mix rfl ?_ | refine agree_setAll rfl ?_))
          case hI => exact by first | exact ⟨k + 1, x48.fu, x48.t, x48.s, x48.y, cl ++ [vs[k]], a53, c53, rfl, rfl, by omega, hst.1, hst.2.mono (by omega) (by omega), hsub2⟩ | exact ⟨k + 1, x48.fu, x48.t, x48.s, x48.y, cl, ac, cc, rfl, rfl, by omega, hst.1, hst.2.mono (by omega) (by omega), hsub⟩
          case hm => exact by show vs.length - (k + 1 : Int).toNat < vs.length - (k : Int).toNat; omega
          case hH => exact (Subs.st inferInstance)
      ·
        have p43 := h43
        try simp only [decide_eq_true_eq, decide_eq_false_iff_not, Bool.not_eq_true', Bool.not_eq_false', Option.isNone_iff_eq_none, ne_eq, Decidable.not_not, Int.not_lt, Int.not_le] at p43
        have hkn : k = vs.length := by omega
        have hcl := hvi.len
        refine T_exit ?_
        refine X_then_exit ?_
        refine X_loop_exit ?_
        refine X_block_exit ?_
        refine X_then ?_
        refine T_seq ?_
        refine T_region ?_
        refine TL_q (Qt_move (.pointer _) rfl) rfl ?_
        refine TL_conv (fun w hw => (Subs.st inferInstance w hw : St w0 (DS.H x30.1 s (row (.slice ac (cl).length cc) 44 38 ((cl).flatMap VoteV.list) :: blk b5 (.cells (PlanV.mk (kp : Int) torn cut).cells 25 (0, 0)) :: H)) w)) ?_
        refine TL_e rfl (Ef_call (ddown_c (p := x30.1) (s := s)) rfl (fun x56 => ?_))
        refine TL_q (Qt_assign (.bool _) rfl) rfl ?_
        refine TL_nil ?_
        refine X_then ?_
        refine T_seq ?_
        refine T_region ?_
        refine TL_q (Qt_move (.pointer _) rfl) rfl ?_
        refine TL_q (Qt_loadN rfl rfl) rfl ?_
        refine TL_conv (fun w hw => (Subs.st inferInstance w hw : St w0 (DS.H x30.1 s (row (.slice ac (cl).length cc) 44 38 ((cl).flatMap VoteV.list) :: blk b5 (.cells (PlanV.mk (kp : Int) torn cut).cells 25 (0, 0)) :: H)) w)) ?_
        refine TL_e rfl (Ef_call (crash2_c (p := x30.1) (s := s) hok (by omega) (by omega) (kp := kp) (torn := torn) (cut := cut) hkp) rfl (fun x59 => ?_))
        refine TL_pure (fun h59 => ?_)
        have hpd := hvi.pend
        have hok59 := (h59.toR.ok hok).mono (N' := 2000) (M' := 4000000) (by omega) (by omega)
        obtain ⟨L, segs, fs, rc, tl, nx, hLF, hrt, hl1, hl2, hl3, hl0, htk, hLl, hLs, hLc⟩ := hvi.crash (by omega) h59
        have hP := hLF.openP (c := 0) hok59.good2 hrt hl1 hl2 hl3 hl0 hLl hLs
        have hcm : Came L := takes_put htk
        refine TL_nil ?_
        refine X_then ?_
        refine T_seq ?_
        refine T_region ?_
        refine TL_q (Qt_move (.pointer _) rfl) rfl ?_
        refine TL_e rfl (Ef_call (four_c) rfl (fun x62 => ?_))
        refine TL_e rfl (Ef_call (sopenP_c (p := x30.1) (s := x59) hok59 (by omega) (by omega) (by omega) h59.live hP (put_map hcm) (by rw [List.length_map]; omega)) rfl (fun x63 => ?_))
        refine TL_pure (fun h63 => ?_)
        refine TL_q (Qt_move (.tuple _) rfl) rfl ?_
        refine TL_q (Qt_extract rfl) rfl ?_
        refine TL_q (Qt_extract rfl) rfl ?_
        refine TL_q (Qt_assign (.pointer _) rfl) rfl ?_
        refine TL_q (Qt_assign (.int .i64 _) rfl) rfl ?_
        refine TL_nil ?_
        refine X_then ?_
        refine T_seq ?_
        refine T_seq ?_
        refine T_region ?_
        refine TL_q (Qt_move (.int .i64 _) rfl) rfl ?_
        refine TL_q (Qt_neq rfl rfl) rfl ?_
        refine TL_nil ?_
        refine X_then ?_
        refine T_cond rfl (fun h67 => ?_) (fun h67 => ?_)
        ·
          have p67 := h67
          try simp only [decide_eq_true_eq, decide_eq_false_iff_not, Bool.not_eq_true', Bool.not_eq_false', Option.isNone_iff_eq_none, ne_eq, Decidable.not_not, Int.not_lt, Int.not_le] at p67
          obtain ⟨-, -, ⟨he4, -⟩ | ⟨he0, -⟩⟩ := h63
          rotate_left
          · exact absurd he0 p67
          refine T_seq ?_
          refine T_region ?_
          refine TL_q (Qt_move (.int .i64 _) rfl) rfl ?_
          refine TL_q (Qt_eql rfl rfl) rfl ?_
          refine TL_q (Qt_assign (.bool _) rfl) rfl ?_
          refine TL_nil ?_
          refine X_then ?_
          refine T_ret ?_
          refine X_then_ret ?_
          exact X_ret () [.bool true] Tryz.results3 ⟨congrArg Value.bool (decide_eq_true he4), trivial⟩ rfl (Subs.st inferInstance)
        ·
          have p67 := h67
          try simp only [decide_eq_true_eq, decide_eq_false_iff_not, Bool.not_eq_true', Bool.not_eq_false', Option.isNone_iff_eq_none, ne_eq, Decidable.not_not, Int.not_lt, Int.not_le] at p67
          obtain ⟨-, hy63, ⟨he4, -⟩ | ⟨-, hqt, hlo, hab, -⟩⟩ := h63
          · exact absurd he4 (by omega)
          rw [hqt, hlo]
          have hsd : SameD x63.y.abs L := by rw [hab]; exact takes_same L htk
          have hLc2 : L = cl ∨ ∃ v, L = cl ++ [v] ∧ takeL cl v = 0 := hLc.elim .inl (fun h => .inr h.2)
          refine T_skip ?_
          refine X_then ?_
          refine T_seq ?_
          refine T_region ?_
          refine TL_q (Qt_move (.slice _ _ _) rfl) rfl ?_
          refine TL_e rfl (Ef_call (rReg_c (vs := cl) (by omega)) rfl (fun x72 => ?_))
          refine TL_q (Qt_move (.tuple _) rfl) rfl ?_
          refine TL_q (Qt_extract rfl) rfl ?_
          refine TL_q (Qt_extract rfl) rfl ?_
          refine TL_q (Qt_assign (.int .i64 _) rfl) rfl ?_
          refine TL_q (Qt_assign (.int .i64 _) rfl) rfl ?_
          refine TL_nil ?_
          refine X_then ?_
          refine T_seq ?_
          refine T_region ?_
          refine TL_q (Qt_move (.pointer _) rfl) rfl ?_
          refine TL_conv (fun w hw => (Subs.st inferInstance w hw : St w0 (qblkO x63.q x63.sb x30.1 (some ⟨x63.lp, 0, none⟩) x63.bp false :: BkS.H x63.y x63.bp (row (.slice ac (cl).length cc) 44 38 ((cl).flatMap VoteV.list) :: H)) w)) ?_
          refine TL_e rfl (Ef_call (sreg_c (q := x63.q) (sb := x63.sb) (p := x30.1) (bp := x63.bp) (lo := some ⟨x63.lp, 0, none⟩) (fu := false) (y := x63.y)) rfl (fun x77 => ?_))
          have hreg : ¬ (0 ≤ (regL cl).1 ∧ (x63.y.k.now.view < (regL cl).1 ∨ (x63.y.k.now.view = (regL cl).1 ∧ x63.y.k.now.reg < (regL cl).2))) := reg_kept hsd hLc2
          refine TL_q (Qt_move (.tuple _) rfl) rfl ?_
          refine TL_q (Qt_extract rfl) rfl ?_
          refine TL_q (Qt_extract rfl) rfl ?_
          refine TL_q (Qt_assign (.int .i64 _) rfl) rfl ?_
          refine TL_q (Qt_assign (.int .i64 _) rfl) rfl ?_
          refine TL_nil ?_
          refine X_then ?_
          refine T_seq ?_
          refine T_cut [80, 81, 82, 83, 84, 85, 86, 87, 88, 89, 90, 91, 92, 93, 94, 95, 96] [96] (fun us H' => us = [.bool false] ∧ (qblkO x63.q x63.sb x30.1 (some ⟨x63.lp, 0, none⟩) x63.bp false :: BkS.H x63.y x63.bp (row (.slice ac (cl).length cc) 44 38 ((cl).flatMap VoteV.list) :: H)) = H') ?_ ?_
          ·
            refine T_region ?_
            refine TL_q (Qt_move (.int .i64 _) rfl) rfl ?_
            refine TL_q (Qt_geq rfl rfl) rfl ?_
            refine TL_q (Qt_move (.bool _) rfl) rfl ?_
            refine TL_split 82 rfl (fun h82 => ?_) (fun h82 => ?_)
            ·
              have p82 := h82
              try simp only [decide_eq_true_eq, decide_eq_false_iff_not, Bool.not_eq_true', Bool.not_eq_false', Option.isNone_iff_eq_none, ne_eq, Decidable.not_not, Int.not_lt, Int.not_le] at p82
              refine TL_take rfl rfl h82 ?_
              refine TL_q (Qt_move (.int .i64 _) rfl) rfl ?_
              refine TL_take rfl rfl h82 ?_
              refine TL_q (Qt_move (.int .i64 _) rfl) rfl ?_
              refine TL_take rfl rfl h82 ?_
              refine TL_q (Qt_lss rfl rfl) rfl ?_
              refine TL_take rfl rfl h82 ?_
              refine TL_q (Qt_move (.bool _) rfl) rfl ?_
              refine TL_split 86 rfl (fun h86 => ?_) (fun h86 => ?_)
              ·
                have p86 := h86
                try simp only [decide_eq_true_eq, decide_eq_false_iff_not, Bool.not_eq_true', Bool.not_eq_false', Option.isNone_iff_eq_none, ne_eq, Decidable.not_not, Int.not_lt, Int.not_le] at p86
                refine TL_pass rfl rfl h86 rfl ?_
                refine TL_pass rfl rfl h86 rfl ?_
                refine TL_pass rfl rfl h86 rfl ?_
                refine TL_pass rfl rfl h86 rfl ?_
                refine TL_passU rfl rfl rfl ?_
                refine TL_passU rfl rfl rfl ?_
                refine TL_passU rfl rfl rfl ?_
                refine TL_pass rfl rfl h86 rfl ?_
                refine TL_take rfl rfl h82 ?_
                refine TL_q (Qt_pick_t (.bool _) rfl h86 rfl) rfl ?_
                refine TL_q (Qt_pick_t (.bool _) rfl h82 rfl) rfl ?_
                refine TL_nil ?_
                refine X_cut _ (by repeat (first | with_reducible exact agree_refl | refine agree_upd rfl ?_ | refine agree_mix rfl ?_ | refine agree_setAll rfl ?_)) (by first | exact ⟨rfl, rfl⟩ | exact ⟨congrArg (fun b => [Value.bool b]) (decide_eq_false (by omega)), rfl⟩ | (exfalso; omega)) (fun w hw => (Subs.st inferInstance w hw : St w0 (qblkO x63.q x63.sb x30.1 (some ⟨x63.lp, 0, none⟩) x63.bp false :: BkS.H x63.y x63.bp (row (.slice ac (cl).length cc) 44 38 ((cl).flatMap VoteV.list) :: H)) w))
              ·
                have p86 := h86
                try simp only [decide_eq_true_eq, decide_eq_false_iff_not, Bool.not_eq_true', Bool.not_eq_false', Option.isNone_iff_eq_none, ne_eq, Decidable.not_not, Int.not_lt, Int.not_le] at p86
                refine TL_take rfl rfl h86 ?_
                refine TL_q (Qt_move (.int .i64 _) rfl) rfl ?_
                refine TL_take rfl rfl h86 ?_
                refine TL_q (Qt_move (.int .i64 _) rfl) rfl ?_
                refine TL_take rfl rfl h86 ?_
                refine TL_q (Qt_eql rfl rfl) rfl ?_
                refine TL_take rfl rfl h86 ?_
                refine TL_q (Qt_move (.bool _) rfl) rfl ?_
                refine TL_split 90 rfl (fun h90 => ?_) (fun h90 => ?_)
                ·
                  have p90 := h90
                  try simp only [decide_eq_true_eq, decide_eq_false_iff_not, Bool.not_eq_true', Bool.not_eq_false', Option.isNone_iff_eq_none, ne_eq, Decidable.not_not, Int.not_lt, Int.not_le] at p90
                  refine TL_take rfl rfl h90 ?_
                  refine TL_q (Qt_move (.int .i64 _) rfl) rfl ?_
                  refine TL_take rfl rfl h90 ?_
                  refine TL_q (Qt_move (.int .i64 _) rfl) rfl ?_
                  refine TL_take rfl rfl h90 ?_
                  refine TL_q (Qt_lss rfl rfl) rfl ?_
                  refine TL_take rfl rfl h86 ?_
                  refine TL_q (Qt_pick_t (.bool _) rfl h90 rfl) rfl ?_
                  refine TL_take rfl rfl h82 ?_
                  refine TL_q (Qt_pick_f (.bool _) rfl h86 rfl) rfl ?_
                  refine TL_q (Qt_pick_t (.bool _) rfl h82 rfl) rfl ?_
                  refine TL_nil ?_
                  refine X_cut _ (by repeat (first | with_reducible exact agree_refl | refine agree_upd rfl ?_ | refine agree_mix rfl ?_ | refine agree_setAll rfl ?_)) (by first | exact ⟨rfl, rfl⟩ | exact ⟨congrArg (fun b => [Value.bool b]) (decide_eq_false (by omega)), rfl⟩ | (exfalso; omega)) (fun w hw => (Subs.st inferInstance w hw : St w0 (qblkO x63.q x63.sb x30.1 (some ⟨x63.lp, 0, none⟩) x63.bp false :: BkS.H x63.y x63.bp (row (.slice ac (cl).length cc) 44 38 ((cl).flatMap VoteV.list) :: H)) w))
                ·
                  have p90 := h90
                  try simp only [decide_eq_true_eq, decide_eq_false_iff_not, Bool.not_eq_true', Bool.not_eq_false', Option.isNone_iff_eq_none, ne_eq, Decidable.not_not, Int.not_lt, Int.not_le] at p90
                  refine TL_pass rfl rfl h90 rfl ?_
                  refine TL_pass rfl rfl h90 rfl ?_
                  refine TL_pass rfl rfl h90 rfl ?_
                  refine TL_take rfl rfl h86 ?_
                  refine TL_q (Qt_pick_f (.bool _) rfl h90 rfl) rfl ?_
                  refine TL_take rfl rfl h82 ?_
                  refine TL_q (Qt_pick_f (.bool _) rfl h86 rfl) rfl ?_
                  refine TL_q (Qt_pick_t (.bool _) rfl h82 rfl) rfl ?_
                  refine TL_nil ?_
                  refine X_cut _ (by repeat (first | with_reducible exact agree_refl | refine agree_upd rfl ?_ | refine agree_mix rfl ?_ | refine agree_setAll rfl ?_)) (by first | exact ⟨rfl, rfl⟩ | exact ⟨congrArg (fun b => [Value.bool b]) (decide_eq_false (by omega)), rfl⟩ | (exfalso; omega)) (fun w hw => (Subs.st inferInstance w hw : St w0 (qblkO x63.q x63.sb x30.1 (some ⟨x63.lp, 0, none⟩) x63.bp false :: BkS.H x63.y x63.bp (row (.slice ac (cl).length cc) 44 38 ((cl).flatMap VoteV.list) :: H)) w))
            ·
              have p82 := h82
              try simp only [decide_eq_true_eq, decide_eq_false_iff_not, Bool.not_eq_true', Bool.not_eq_false', Option.isNone_iff_eq_none, ne_eq, Decidable.not_not, Int.not_lt, Int.not_le] at p82
              refine TL_pass rfl rfl h82 rfl ?_
              refine TL_pass rfl rfl h82 rfl ?_
              refine TL_pass rfl rfl h82 rfl ?_
              refine TL_pass rfl rfl h82 rfl ?_
              refine TL_passU rfl rfl rfl ?_
              refine TL_passU rfl rfl rfl ?_
              refine TL_passU rfl rfl rfl ?_
              refine TL_passU rfl rfl rfl ?_
              refine TL_passU rfl rfl rfl ?_
              refine TL_passU rfl rfl rfl ?_
              refine TL_passU rfl rfl rfl ?_
              refine TL_passU rfl rfl rfl ?_
              refine TL_pass rfl rfl h82 rfl ?_
              refine TL_q (Qt_pick_f (.bool _) rfl h82 rfl) rfl ?_
              refine TL_nil ?_
              refine X_cut _ (by repeat (first | with_reducible exact agree_refl | refine agree_upd rfl ?_ | refine agree_mix rfl ?_ | refine agree_setAll rfl ?_)) (by first | exact ⟨rfl, rfl⟩ | exact ⟨congrArg (fun b => [Value.bool b]) (decide_eq_false (by omega)), rfl⟩ | (exfalso; omega)) (fun w hw => (Subs.st inferInstance w hw : St w0 (qblkO x63.q x63.sb x30.1 (some ⟨x63.lp, 0, none⟩) x63.bp false :: BkS.H x63.y x63.bp (row (.slice ac (cl).length cc) 44 38 ((cl).flatMap VoteV.list) :: H)) w))
          ·
            rintro τc0 _ _ ⟨rfl, rfl⟩ _
            refine T_cond_false rfl (by first | rfl | decide) ?_
            refine T_skip ?_
            refine X_then ?_
            refine T_seq ?_
            refine T_seq ?_
            refine T_region ?_
            refine TL_q (Qt_move (.slice _ _ _) rfl) rfl ?_
            refine TL_q (Qt_len_slice rfl Tryz.underlying22) rfl ?_
            refine TL_q (Qt_move (.int .i64 _) rfl) rfl ?_
            refine TL_nil ?_
            refine X_then ?_
            refine T_block ?_
            refine T_loop [6, 21, 22, 23, 24, 25, 99, 100, 101, 102, 103, 104, 105, 106, 107, 108, 109, 110, 111, 112, 113, 114, 115, 116, 117, 118, 119, 120, 121, 122, 123, 124, 125, 126, 127, 128, 129, 130, 131, 132, 133, 134, 135, 136, 137, 138, 139, 140, 141, 142, 143, 144, 145, 146, 147, 148, 149, 150, 151, 152, 153, 154, 155, 156, 157, 158] [99] (fun us H' => ∃ (k : Nat), us = [.int .i64 (k : Int)] ∧ qblkO x63.q x63.sb x30.1 (some ⟨x63.lp, 0, none⟩) x63.bp false :: BkS.H x63.y x63.bp (row (.slice ac (cl).length cc) 44 38 ((cl).flatMap VoteV.list) :: H) = H' ∧ k ≤ cl.length) (fun us => match us with | .int _ i :: _ => cl.length - i.toNat | _ => 0) ⟨0, rfl, rfl, by omega⟩ (Subs.st inferInstance) ?_
            rintro τ1 _ _  ⟨k, rfl, rfl, hk0⟩ _
            refine T_seq ?_
            refine T_region ?_
            refine TL_q (Qt_lss rfl rfl) rfl ?_
            refine TL_nil ?_
            refine X_then ?_
            refine T_seq ?_
            refine T_cond rfl (fun h100 => ?_) (fun h100 => ?_)
            ·
              have p100 := h100
              try simp only [decide_eq_true_eq, decide_eq_false_iff_not, Bool.not_eq_true', Bool.not_eq_false', Option.isNone_iff_eq_none, ne_eq, Decidable.not_not, Int.not_lt, Int.not_le] at p100
              have hk : k < cl.length := by omega
              have hvk := List.getElem_mem hk
              refine T_skip ?_
              refine X_then ?_
              refine T_seq ?_
              refine T_block ?_
              refine T_seq ?_
              refine T_region ?_
              refine TL_q (Qt_indexN rfl rfl (by omega) (by omega)) rfl ?_
              refine TL_q (Qt_loadVote (k := k) rfl hk) rfl ?_
              refine TL_e rfl (Ef_allocN (fun b21 => ?_))
              refine TL_n (Ef_storeN rfl rfl (?_))
              refine TL_nil ?_
              refine X_then ?_
              refine T_seq ?_
              refine T_seq ?_
              refine T_draw (blk b21 (.cells cl[k].cells 44 (0, 0)) :: H) [(0, true), (1, true), (2, true), (3, true), (4, true), (5, true), (6, true), (7, false), (8, true), (9, true)] (by kernel_rfl) (by kernel_rfl) rfl (by kernel_rfl) (Subs.st inferInstance) (fun hns1 => ?_)
              refine DL_q hns1 rfl (Qt_fieldAddr 0 rfl rfl) rfl ?_
              refine DL_q hns1 rfl (Qt_load1 rfl) rfl ?_
              refine DL_q hns1 rfl (Qt_neq rfl rfl) rfl ?_
              refine DL_q hns1 rfl (Qt_move (.bool _) rfl) rfl ?_
              refine DL_split 106 rfl (fun h106 => ?_) (fun h106 => ?_)
              ·
                have p106 := h106
                try simp only [decide_eq_true_eq, decide_eq_false_iff_not, Bool.not_eq_true', Bool.not_eq_false', Option.isNone_iff_eq_none, ne_eq, Decidable.not_not, Int.not_lt, Int.not_le] at p106
                refine DL_pass hns1 rfl rfl rfl h106 rfl ?_
                refine DL_pass hns1 rfl rfl rfl h106 rfl ?_
                refine DL_pass hns1 rfl rfl rfl h106 rfl ?_
                refine DL_passF rfl rfl rfl h106 rfl ?_
                refine DL_pass hns1 rfl rfl rfl h106 rfl ?_
                refine DL_q hns1 rfl (Qt_pick_t (.bool _) rfl h106 rfl) rfl ?_
                refine DL_nil ?_
                refine X_then ?_
                refine T_cond_true rfl rfl ?_
                refine T_exit ?_
                refine X_then_exit ?_
                refine X_block_exit ?_
                refine X_then ?_
                refine T_region ?_
                first
                  | refine TL_q (Qt_add rfl rfl (by omega) (by omega)) rfl ?_
                  | refine TL_q (Qt_addw rfl rfl) rfl ?_
                refine TL_q (Qt_move (.int .i64 _) rfl) rfl ?_
                refine TL_nil ?_
                apply X_loop
                case ha => exact (by repeat (first | with_reducible exact agree_refl | refine agree_upd rfl ?_ | refine agree_mix rfl ?_ | refine agree_setAll rfl ?_))
                case hI => exact ⟨k + 1, rfl, rfl, by omega⟩
                case hm => exact by show cl.length - (k + 1 : Int).toNat < cl.length - (k : Int).toNat; omega
                case hH => exact (Subs.st inferInstance)
              ·
                have p106 := h106
                try simp only [decide_eq_true_eq, decide_eq_false_iff_not, Bool.not_eq_true', Bool.not_eq_false', Option.isNone_iff_eq_none, ne_eq, Decidable.not_not, Int.not_lt, Int.not_le] at p106
                have hk2 : cl[k].kind = 2 := by omega
                refine DL_qg hns1 rfl rfl rfl h106 (Qt_fieldAddr 3 rfl rfl) rfl ?_
                refine DL_qg hns1 rfl rfl rfl h106 (Qt_load1 rfl) rfl ?_
                refine DL_qg hns1 rfl rfl rfl h106 (Qt_move (.slice _ _ _) rfl) rfl ?_
                refine DL_eg rfl rfl rfl h106 rfl (Ef_call (rSlot_c (vs := cl) (by omega)) rfl (fun x110 => ⟨(Subs.st inferInstance), ?_⟩))
                refine DL_qg hns1 rfl rfl rfl h106 (Qt_neq rfl rfl) rfl ?_
                refine DL_q hns1 rfl (Qt_pick_f (.bool _) rfl h106 rfl) rfl ?_
                refine DL_nil ?_
                refine X_then ?_
                refine T_cond rfl (fun h112 => ?_) (fun h112 => ?_)
                ·
                  have p112 := h112
                  try simp only [decide_eq_true_eq, decide_eq_false_iff_not, Bool.not_eq_true', Bool.not_eq_false', Option.isNone_iff_eq_none, ne_eq, Decidable.not_not, Int.not_lt, Int.not_le] at p112
                  refine T_exit ?_
                  refine X_then_exit ?_
                  refine X_block_exit ?_
                  refine X_then ?_
                  refine T_region ?_
                  first
                    | refine TL_q (Qt_add rfl rfl (by omega) (by omega)) rfl ?_
                    | refine TL_q (Qt_addw rfl rfl) rfl ?_
                  refine TL_q (Qt_move (.int .i64 _) rfl) rfl ?_
                  refine TL_nil ?_
                  apply X_loop
                  case ha => exact (by repeat (first | with_reducible exact agree_refl | refine agree_upd rfl ?_ | refine agree_mix rfl ?_ | refine agree_setAll rfl ?_))
                  case hI => exact ⟨k + 1, rfl, rfl, by omega⟩
                  case hm => exact by show cl.length - (k + 1 : Int).toNat < cl.length - (k : Int).toNat; omega
                  case hH => exact (Subs.st inferInstance)
                ·
                  have p112 := h112
                  try simp only [decide_eq_true_eq, decide_eq_false_iff_not, Bool.not_eq_true', Bool.not_eq_false', Option.isNone_iff_eq_none, ne_eq, Decidable.not_not, Int.not_lt, Int.not_le] at p112
                  have hsl : cl[k].slot = slotL cl := by omega
                  have hwk := wrote_kept hsd hLc2 hvk hk2 hsl
                  refine T_skip ?_
                  refine X_then ?_
                  refine T_seq ?_
                  refine T_region ?_
                  refine TL_q (Qt_move (.pointer _) rfl) rfl ?_
                  refine TL_q (Qt_fieldAddr 3 rfl rfl) rfl ?_
                  refine TL_q (Qt_load1 rfl) rfl ?_
                  refine TL_q (Qt_fieldAddr 1 rfl rfl) rfl ?_
                  refine TL_q (Qt_load1 rfl) rfl ?_
                  refine TL_q (Qt_fieldAddr 2 rfl rfl) rfl ?_
                  refine TL_q (Qt_load1 rfl) rfl ?_
                  refine TL_conv (fun w hw => (Subs.st inferInstance w hw : St w0 (qblkO x63.q x63.sb x30.1 (some ⟨x63.lp, 0, none⟩) x63.bp false :: BkS.H x63.y x63.bp (blk b21 (.cells cl[k].cells 44 (0, 0)) :: row (.slice ac (cl).length cc) 44 38 ((cl).flatMap VoteV.list) :: H)) w)) ?_
                  refine TL_e rfl (Ef_call (swrote_c (q := x63.q) (sb := x63.sb) (p := x30.1) (bp := x63.bp) (lo := some ⟨x63.lp, 0, none⟩) (fu := false) (y := x63.y) hy63 (n := cl[k].slot) (view := cl[k].view) (reg := cl[k].reg)) rfl (fun x121 => ?_))
                  refine TL_pure (fun h121 => ?_)
                  refine TL_q (Qt_move (.tuple _) rfl) rfl ?_
                  refine TL_q (Qt_extract rfl) rfl ?_
                  refine TL_q (Qt_extract rfl) rfl ?_
                  refine TL_e rfl (Ef_allocN (fun b22 => ?_))
                  refine TL_n (Ef_storeN rfl rfl (?_))
                  refine TL_q (Qt_assign (.bool _) rfl) rfl ?_
                  refine TL_nil ?_
                  refine X_then ?_
                  refine T_seq ?_
                  refine T_region ?_
                  refine TL_q (Qt_move (.slice _ _ _) rfl) rfl ?_
                  refine TL_q (Qt_fieldAddr 1 rfl rfl) rfl ?_
                  refine TL_q (Qt_load1 rfl) rfl ?_
                  refine TL_q (Qt_fieldAddr 2 rfl rfl) rfl ?_
                  refine TL_q (Qt_load1 rfl) rfl ?_
                  refine TL_e rfl (Ef_call (rWrote_c (vs := cl) (by omega) (view := cl[k].view) (reg := cl[k].reg)) rfl (fun x130 => ?_))
                  refine TL_q (Qt_move (.tuple _) rfl) rfl ?_
                  refine TL_q (Qt_extract rfl) rfl ?_
                  refine TL_q (Qt_extract rfl) rfl ?_
                  refine TL_e rfl (Ef_allocN (fun b24 => ?_))
                  refine TL_n (Ef_storeN rfl rfl (?_))
                  refine TL_q (Qt_assign (.bool _) rfl) rfl ?_
                  refine TL_nil ?_
                  refine X_then ?_
                  refine T_seq ?_
                  refine T_draw (blk b21 (.cells cl[k].cells 44 (0, 0)) :: blk b22 (.cells x121.1.cells 44 (0, 0)) :: blk b24 (.cells ((wroteL cl ⟨cl[k].view, cl[k].reg⟩).getD VoteV.zero).cells 44 (0, 0)) :: H) [(0, true), (1, true), (2, true), (3, true), (4, false), (5, true), (6, true), (7, true), (8, true), (9, true), (10, true), (11, false), (12, true), (13, true), (14, true), (15, true), (16, true), (19, true), (20, true), (17, false), (18, false), (21, true), (22, true), (23, true), (24, true)] (by kernel_rfl) (by kernel_rfl) rfl (by kernel_rfl) (Subs.st inferInstance) (fun hns2 => ?_)
                  rcases hwk with ⟨u, hu, hq1, hq2⟩ | ⟨hq0, hq1, hq2⟩
                  ·
                    refine DL_q hns2 rfl (Qt_move (.bool _) rfl) rfl ?_
                    refine DL_q hns2 rfl (Qt_move (.bool _) rfl) rfl ?_
                    refine DL_split 134 rfl (fun h134 => ?_) (fun h134 => ?_)
                    ·
                      have p134 := h134
                      try simp only [decide_eq_true_eq, decide_eq_false_iff_not, Bool.not_eq_true', Bool.not_eq_false', Option.isNone_iff_eq_none, ne_eq, Decidable.not_not, Int.not_lt, Int.not_le] at p134
                      refine DL_qg hns2 rfl rfl rfl h134 (Qt_loadN rfl rfl) rfl ?_
                      refine DL_qg hns2 rfl rfl rfl h134 (Qt_loadN rfl rfl) rfl ?_
                      have hU : ((wroteL cl ⟨cl[k].view, cl[k].reg⟩).getD VoteV.zero) = u := by rw [hu]; rfl
                      have hum := (wroteL_spec hu).1
                      have hab1 : x121.1.abs = u.abs := by rw [h121, if_pos (show x63.y.k.slot = cl[k].slot from hq1), (get_has hq2).2]
                      have hsz : SmallV x121.1.abs := by rw [hab1]; exact small_of_long hlg _ (List.mem_map.2 ⟨_, hsub u hum, rfl⟩)
                      have rvw : RdVs w0 (blk b24 (.cells ((wroteL cl ⟨cl[k].view, cl[k].reg⟩).getD VoteV.zero).cells 44 (0, 0)) :: blk b22 (.cells x121.1.cells 44 (0, 0)) :: datV x121.2 [x121.1] :: qblkO x63.q x63.sb x30.1 (some ⟨x63.lp, 0, none⟩) x63.bp false :: BkS.H x63.y x63.bp (blk b21 (.cells cl[k].cells 44 (0, 0)) :: row (.slice ac (cl).length cc) 44 38 ((cl).flatMap VoteV.list) :: H)) [x121.1] := inferInstance
                      have rbw := rvw.b _ (List.mem_singleton.2 rfl)
                      have rcw := rvw.c _ (List.mem_singleton.2 rfl)
                      have rew := rvw.e _ (List.mem_singleton.2 rfl)
                      have rvc : RdVs w0 H cl := rds_sub rv hsub
                      have rbu : RdB w0 H (.slice ((wroteL cl ⟨cl[k].view, cl[k].reg⟩).getD VoteV.zero).batch.a ((wroteL cl ⟨cl[k].view, cl[k].reg⟩).getD VoteV.zero).batch.l.length ((wroteL cl ⟨cl[k].view, cl[k].reg⟩).getD VoteV.zero).batch.c) ((wroteL cl ⟨cl[k].view, cl[k].reg⟩).getD VoteV.zero).batch.l := by rw [hU]; exact rvc.b _ hum
                      have rcu : RdC w0 H (.slice ((wroteL cl ⟨cl[k].view, cl[k].reg⟩).getD VoteV.zero).cert.a ((wroteL cl ⟨cl[k].view, cl[k].reg⟩).getD VoteV.zero).cert.ls.length ((wroteL cl ⟨cl[k].view, cl[k].reg⟩).getD VoteV.zero).cert.c) 1 (((wroteL cl ⟨cl[k].view, cl[k].reg⟩).getD VoteV.zero).cert.ls.map BS.val) := by rw [hU]; exact rvc.c _ hum
                      have reu : RdE w0 H ((wroteL cl ⟨cl[k].view, cl[k].reg⟩).getD VoteV.zero).cert.ls := by rw [hU]; exact rvc.e _ hum
                      refine DL_eg rfl rfl rfl h134 rfl (Ef_call (same13_c (v := x121.1) (u := ((wroteL cl ⟨cl[k].view, cl[k].reg⟩).getD VoteV.zero)) (by have := hsz.batch; omega) (by have := hsz.cert; omega) (fun x hx => by have := hsz.each x hx; omega)) rfl (fun x137 => ⟨(Subs.st inferInstance), ?_⟩))
                      rw [decide_eq_true (show x121.1.abs = ((wroteL cl ⟨cl[k].view, cl[k].reg⟩).getD VoteV.zero).abs from by rw [hU]; exact hab1)]
                      refine DL_q hns2 rfl (Qt_pick_t (.bool _) rfl h134 rfl) rfl ?_
                      refine DL_q hns2 rfl (Qt_not rfl) rfl ?_
                      refine DL_q hns2 rfl (Qt_move (.bool _) rfl) rfl ?_
                      refine DL_split 140 rfl (fun h140 => ?_) (fun h140 => ?_)
                      ·
                        have p140 := h140
                        try simp only [decide_eq_true_eq, decide_eq_false_iff_not, Bool.not_eq_true', Bool.not_eq_false', Option.isNone_iff_eq_none, ne_eq, Decidable.not_not, Int.not_lt, Int.not_le] at p140
                        exact absurd h140 (by simp)
                      ·
                        have p140 := h140
                        try simp only [decide_eq_true_eq, decide_eq_false_iff_not, Bool.not_eq_true', Bool.not_eq_false', Option.isNone_iff_eq_none, ne_eq, Decidable.not_not, Int.not_lt, Int.not_le] at p140
                        refine DL_pass hns2 rfl rfl rfl h140 rfl ?_
                        refine DL_pass hns2 rfl rfl rfl h140 rfl ?_
                        refine DL_passU hns2 rfl rfl rfl rfl ?_
                        refine DL_conv (fun w hw => (Subs.st inferInstance w hw : St w0 (qblkO x63.q x63.sb x30.1 (some ⟨x63.lp, 0, none⟩) x63.bp false :: BkS.H x63.y x63.bp (blk b21 (.cells cl[k].cells 44 (0, 0)) :: blk b22 (.cells x121.1.cells 44 (0, 0)) :: blk b24 (.cells ((wroteL cl ⟨cl[k].view, cl[k].reg⟩).getD VoteV.zero).cells 44 (0, 0)) :: row (.slice ac (cl).length cc) 44 38 ((cl).flatMap VoteV.list) :: H)) w)) ?_
                        refine DL_passUF rfl rfl rfl rfl ?_
                        refine DL_passU hns2 rfl rfl rfl rfl ?_
                        refine DL_passU hns2 rfl rfl rfl rfl ?_
                        refine DL_pass hns2 rfl rfl rfl h140 rfl ?_
                        refine DL_pass hns2 rfl rfl rfl h140 rfl ?_
                        refine DL_passU hns2 rfl rfl rfl rfl ?_
                        refine DL_passU hns2 rfl rfl rfl rfl ?_
                        refine DL_passU hns2 rfl rfl rfl rfl ?_
                        refine DL_conv (fun w hw => (Subs.st inferInstance w hw : St w0 (qblkO x63.q x63.sb x30.1 (some ⟨x63.lp, 0, none⟩) x63.bp false :: BkS.H x63.y x63.bp (blk b21 (.cells cl[k].cells 44 (0, 0)) :: blk b22 (.cells x121.1.cells 44 (0, 0)) :: blk b24 (.cells ((wroteL cl ⟨cl[k].view, cl[k].reg⟩).getD VoteV.zero).cells 44 (0, 0)) :: row (.slice ac (cl).length cc) 44 38 ((cl).flatMap VoteV.list) :: H)) w)) ?_
                        refine DL_passUF rfl rfl rfl rfl ?_
                        refine DL_passUF rfl rfl rfl rfl ?_
                        refine DL_passU hns2 rfl rfl rfl rfl ?_
                        refine DL_pass hns2 rfl rfl rfl h140 rfl ?_
                        refine DL_pass hns2 rfl rfl rfl h140 rfl ?_
                        refine DL_q hns2 rfl (Qt_pick_f (.bool _) rfl h140 rfl) rfl ?_
                        refine DL_nil ?_
                        refine X_then ?_
                        refine T_cond_false rfl rfl ?_
                        refine T_skip ?_
                        refine X_block ?_
                        refine X_then ?_
                        refine T_region ?_
                        first
                          | refine TL_q (Qt_add rfl rfl (by omega) (by omega)) rfl ?_
                          | refine TL_q (Qt_addw rfl rfl) rfl ?_
                        refine TL_q (Qt_move (.int .i64 _) rfl) rfl ?_
                        refine TL_nil ?_
                        apply X_loop
                        case ha => exact (by repeat (first | with_reducible exact agree_refl | refine agree_upd rfl ?_ | refine agree_mix rfl ?_ | refine agree_setAll rfl ?_))
                        case hI => exact ⟨k + 1, rfl, rfl, by omega⟩
                        case hm => exact by show cl.length - (k + 1 : Int).toNat < cl.length - (k : Int).toNat; omega
                        case hH => exact (Subs.st inferInstance)
                    ·
                      have p134 := h134
                      try simp only [decide_eq_true_eq, decide_eq_false_iff_not, Bool.not_eq_true', Bool.not_eq_false', Option.isNone_iff_eq_none, ne_eq, Decidable.not_not, Int.not_lt, Int.not_le] at p134
                      exact absurd h134 (by rw [decide_eq_true (show x63.y.k.slot = cl[k].slot from hq1), (get_has hq2).1]; simp)
                  ·
                    refine DL_q hns2 rfl (Qt_move (.bool _) rfl) rfl ?_
                    refine DL_q hns2 rfl (Qt_move (.bool _) rfl) rfl ?_
                    refine DL_split 134 rfl (fun h134 => ?_) (fun h134 => ?_)
                    ·
                      have p134 := h134
                      try simp only [decide_eq_true_eq, decide_eq_false_iff_not, Bool.not_eq_true', Bool.not_eq_false', Option.isNone_iff_eq_none, ne_eq, Decidable.not_not, Int.not_lt, Int.not_le] at p134
                      exact absurd h134 (by rw [decide_eq_false (by have h3 : x63.y.k.slot = slotL L := hq2; omega)]; simp)
                    ·
                      have p134 := h134
                      try simp only [decide_eq_true_eq, decide_eq_false_iff_not, Bool.not_eq_true', Bool.not_eq_false', Option.isNone_iff_eq_none, ne_eq, Decidable.not_not, Int.not_lt, Int.not_le] at p134
                      have hdn : s.down = true := hLc.elim (fun h => absurd h hq0) (fun h => h.1)
                      have hpos : 0 < slotL L := by have := slotL_nonneg cl; omega
                      refine DL_pass hns2 rfl rfl rfl h134 rfl ?_
                      refine DL_pass hns2 rfl rfl rfl h134 rfl ?_
                      refine DL_passF rfl rfl rfl h134 rfl ?_
                      refine DL_q hns2 rfl (Qt_pick_f (.bool _) rfl h134 rfl) rfl ?_
                      refine DL_q hns2 rfl (Qt_not rfl) rfl ?_
                      refine DL_q hns2 rfl (Qt_move (.bool _) rfl) rfl ?_
                      refine DL_qg hns2 rfl rfl rfl rfl (Qt_move (.bool _) rfl) rfl ?_
                      refine DL_qg hns2 rfl rfl rfl rfl (Qt_move (.bool _) rfl) rfl ?_
                      refine DL_split 142 rfl (fun h142 => ?_) (fun h142 => ?_)
                      ·
                        have p142 := h142
                        try simp only [decide_eq_true_eq, decide_eq_false_iff_not, Bool.not_eq_true', Bool.not_eq_false', Option.isNone_iff_eq_none, ne_eq, Decidable.not_not, Int.not_lt, Int.not_le] at p142
                        refine DL_qg hns2 rfl rfl rfl h142 (Qt_move (.pointer _) rfl) rfl ?_
                        refine DL_conv (fun w hw => (Subs.st inferInstance w hw : St w0 (qblkO x63.q x63.sb x30.1 (some ⟨x63.lp, 0, none⟩) x63.bp false :: BkS.H x63.y x63.bp (blk b21 (.cells cl[k].cells 44 (0, 0)) :: blk b22 (.cells x121.1.cells 44 (0, 0)) :: blk b24 (.cells ((wroteL cl ⟨cl[k].view, cl[k].reg⟩).getD VoteV.zero).cells 44 (0, 0)) :: row (.slice ac (cl).length cc) 44 38 ((cl).flatMap VoteV.list) :: H)) w)) ?_
                        refine DL_eg rfl rfl rfl h142 rfl (Ef_call (svotes_c (q := x63.q) (sb := x63.sb) (p := x30.1) (bp := x63.bp) (lo := some ⟨x63.lp, 0, none⟩) (fu := false) (y := x63.y) hy63 (keys_in hsd hcm) (by have := keys_len hy63 hsd; omega)) rfl (fun x144 => ⟨(Subs.st inferInstance), ?_⟩))
                        refine DL_pure (fun h144 => ?_)
                        refine DL_qg hns2 rfl rfl rfl h142 (Qt_len_slice rfl Tryz.underlying22) rfl ?_
                        refine DL_qg hns2 rfl rfl rfl h142 (Qt_gtr rfl rfl) rfl ?_
                        refine DL_qg hns2 rfl rfl rfl rfl (Qt_pick_t (.bool _) rfl h142 rfl) rfl ?_
                        refine DL_qg hns2 rfl rfl rfl rfl (Qt_move (.bool _) rfl) rfl ?_
                        refine DL_split 148 rfl (fun h148 => ?_) (fun h148 => ?_)
                        ·
                          have p148 := h148
                          try simp only [decide_eq_true_eq, decide_eq_false_iff_not, Bool.not_eq_true', Bool.not_eq_false', Option.isNone_iff_eq_none, ne_eq, Decidable.not_not, Int.not_lt, Int.not_le] at p148
                          refine DL_qg hns2 rfl rfl rfl h148 (Qt_move (.pointer _) rfl) rfl ?_
                          refine DL_qg hns2 rfl rfl rfl h148 (Qt_fieldAddr 3 rfl rfl) rfl ?_
                          refine DL_qg hns2 rfl rfl rfl h148 (Qt_load1 rfl) rfl ?_
                          refine DL_conv (fun w hw => (Subs.st inferInstance w hw : St w0 (qblkO x63.q x63.sb x30.1 (some ⟨x63.lp, 0, none⟩) x63.bp false :: BkS.H x63.y x63.bp (blk b21 (.cells cl[k].cells 44 (0, 0)) :: blk b22 (.cells x121.1.cells 44 (0, 0)) :: blk b24 (.cells ((wroteL cl ⟨cl[k].view, cl[k].reg⟩).getD VoteV.zero).cells 44 (0, 0)) :: row (.slice ac (cl).length cc) 44 38 ((cl).flatMap VoteV.list) :: H)) w)) ?_
                          refine DL_eg rfl rfl rfl h148 rfl (Ef_call (svotes_c (q := x63.q) (sb := x63.sb) (p := x30.1) (bp := x63.bp) (lo := some ⟨x63.lp, 0, none⟩) (fu := false) (y := x63.y) hy63 (keys_in hsd hcm) (by have := keys_len hy63 hsd; omega)) rfl (fun x150 => ⟨(Subs.st inferInstance), ?_⟩))
                          refine DL_pure (fun h150 => ?_)
                          refine DL_eg rfl rfl rfl h148 rfl (Ef_call (rSlot_c (vs := x150.2.1) (by have := told_lenL hy63 hsd hcm h150; omega)) rfl (fun x151 => ⟨(Subs.st inferInstance), ?_⟩))
                          refine DL_qg hns2 rfl rfl rfl h148 (Qt_gtr rfl rfl) rfl ?_
                          refine DL_qg hns2 rfl rfl rfl rfl (Qt_pick_t (.bool _) rfl h148 rfl) rfl ?_
                          refine DL_qg hns2 rfl rfl rfl rfl (Qt_not rfl) rfl ?_
                          refine DL_q hns2 rfl (Qt_pick_t (.bool _) rfl rfl rfl) rfl ?_
                          refine DL_nil ?_
                          refine X_then ?_
                          refine T_cond rfl (fun h157 => ?_) (fun h157 => ?_)
                          ·
                            have p157 := h157
                            try simp only [decide_eq_true_eq, decide_eq_false_iff_not, Bool.not_eq_true', Bool.not_eq_false', Option.isNone_iff_eq_none, ne_eq, Decidable.not_not, Int.not_lt, Int.not_le] at p157
                            exact absurd h157 (by rw [told_slot hy63 hsd hcm h150, decide_eq_true (by omega)]; simp)
                          ·
                            have p157 := h157
                            try simp only [decide_eq_true_eq, decide_eq_false_iff_not, Bool.not_eq_true', Bool.not_eq_false', Option.isNone_iff_eq_none, ne_eq, Decidable.not_not, Int.not_lt, Int.not_le] at p157
                            refine T_skip ?_
                            refine X_block ?_
                            refine X_then ?_
                            refine T_region ?_
                            first
                              | refine TL_q (Qt_add rfl rfl (by omega) (by omega)) rfl ?_
                              | refine TL_q (Qt_addw rfl rfl) rfl ?_
                            refine TL_q (Qt_move (.int .i64 _) rfl) rfl ?_
                            refine TL_nil ?_
                            apply X_loop
                            case ha => exact (by repeat (first | with_reducible exact agree_refl | refine agree_upd rfl ?_ | refine agree_mix rfl ?_ | refine agree_setAll rfl ?_))
                            case hI => exact ⟨k + 1, rfl, rfl, by omega⟩
                            case hm => exact by show cl.length - (k + 1 : Int).toNat < cl.length - (k : Int).toNat; omega
                            case hH => exact (Subs.st inferInstance)
                        ·
                          have p148 := h148
                          try simp only [decide_eq_true_eq, decide_eq_false_iff_not, Bool.not_eq_true', Bool.not_eq_false', Option.isNone_iff_eq_none, ne_eq, Decidable.not_not, Int.not_lt, Int.not_le] at p148
                          exact absurd p148 (by have := told_some hy63 hsd hcm h144 hpos; omega)
                      ·
                        have p142 := h142
                        try simp only [decide_eq_true_eq, decide_eq_false_iff_not, Bool.not_eq_true', Bool.not_eq_false', Option.isNone_iff_eq_none, ne_eq, Decidable.not_not, Int.not_lt, Int.not_le] at p142
                        exact absurd h142 (by rw [hdn]; simp)
            ·
              have p100 := h100
              try simp only [decide_eq_true_eq, decide_eq_false_iff_not, Bool.not_eq_true', Bool.not_eq_false', Option.isNone_iff_eq_none, ne_eq, Decidable.not_not, Int.not_lt, Int.not_le] at p100
              refine T_exit ?_
              refine X_then_exit ?_
              refine X_loop_exit ?_
              refine X_block_exit ?_
              refine X_then ?_
              refine T_seq ?_
              refine T_region ?_
              refine TL_q (Qt_assign (.bool _) rfl) rfl ?_
              refine TL_nil ?_
              refine X_then ?_
              refine T_ret ?_
              exact X_ret () [.bool true] Tryz.results3 ⟨rfl, trivial⟩ rfl (Subs.st inferInstance)
end Go.Proofs.YtgeknnclmhfjlaaGreatDoor
