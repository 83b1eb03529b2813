/- Walk: the law DiskActs. -/
import Derived.Test.YtededghplnoajaaDy
namespace Go.Proofs.Ytededghplnoajaa
open Go.RowKit Go.Sx
set_option maxRecDepth 100000
set_option linter.unusedSimpArgs false
set_option linter.unusedVariables false
theorem _root_.Go.wpAnyH_mono {P : Program} {md : Region.Mode} {ops : Array Oper} {Q : Exit → Act → World → Prop} {S S' : World → Prop} (hs : ∀ w, S' w → S w) : ∀ (fuel : Nat) (listed : Array Bool) (a : Act) (w : World), wpAnyH P md ops Q S' fuel listed a w → wpAnyH P md ops Q S fuel listed a w
  | 0, _, _, _, h => h
  | fuel + 1, _, _, _, h => ⟨h.1, fun i hi => wpOp_mono (fun a' w' h' => ⟨hs _ h'.1, Go.wpAnyH_mono hs fuel _ a' w' h'.2⟩) (h.2 i hi)⟩
/-- From here on more stands. -/
theorem DL_re {P : Program} {n : Fr} {w0 : World} {σ : Env} {H S : List SA} {Q : Post} {ops : Array Oper} {r : List (Nat × Bool)} (S' : List SA) (hS : ∀ w, St w0 H w → St w0 S' w) (hs : ∀ w, St w0 S' w → St w0 S w) (h : DL P n w0 S' ops r σ H Q) : DL P n w0 S ops r σ H Q := fun a w ha hw _ fuel listed hf hok => Go.wpAnyH_mono hs fuel listed a w (h a w ha hw (hS w hw) fuel listed hf hok)
/-- An act that has bytes of its own. -/
@[reducible] def ownA (x : RActV) (a : Option Addr) (c : Nat) : RActV := ⟨x.kind, x.name, x.to, ⟨a, c, x.b.l⟩, x.p, x.n⟩
attribute [local irreducible] namesE roomOf

set_option maxHeartbeats 1000000 in
theorem diskActs_c {w0 : World} {H : List SA} {room : Int} {a : Option Addr} {l : List RActV} {c : Nat} [hr : RdC w0 H (.slice a l.length c) 8 (l.flatMap RActV.list)] (rl : ∀ x ∈ l, RdB w0 H (.slice x.b.a x.b.l.length x.b.c) x.b.l) (kl : ∀ x ∈ l, 0 ≤ x.p.keep ∧ x.p.keep < 18446744073709551616) (nl : ∀ x ∈ l, x.n ≤ 9223372036854775807) :
    CT Try.prog w0 (H) 8 [.int .i64 room, .slice a l.length c] (α := Unit) (fun _ => .bool true) (fun _ => H) := by
  refine CT_intro Try.func8 rfl Try.ntmps8 rfl ?_
  refine T_seq ?_
  refine T_region ?_
  refine TL_q (Qt_assign (.bool _) rfl) rfl ?_
  refine TL_nil ?_
  refine X_then ?_
  refine T_seq ?_
  refine T_seq ?_
  refine T_region ?_
  refine TL_e rfl (Ef_call (wakes10_c) rfl (fun x11 => ?_))
  refine TL_q (Qt_not rfl) rfl ?_
  refine TL_nil ?_
  refine X_then ?_
  refine T_cond rfl (fun h12 => ?_) (fun h12 => ?_)
  ·
    have p12 := h12
    try simp only [decide_eq_true_eq, decide_eq_false_iff_not, Bool.not_eq_true', Bool.not_eq_false', Option.isNone_iff_eq_none, ne_eq, Decidable.not_not, Int.not_lt, Int.not_le] at p12
    cases h12
  ·
    have p12 := h12
    try simp only [decide_eq_true_eq, decide_eq_false_iff_not, Bool.not_eq_true', Bool.not_eq_false', Option.isNone_iff_eq_none, ne_eq, Decidable.not_not, Int.not_lt, Int.not_le] at p12
    refine T_skip ?_
    refine X_then ?_
    refine T_seq ?_
    refine T_seq ?_
    refine T_region ?_
    refine TL_q (Qt_move (.slice _ _ _) rfl) rfl ?_
    refine TL_e rfl (Ef_call (long10_c (l := l)) rfl (fun x14 => ?_))
    refine TL_pure (fun hs14 => ?_)
    refine TL_nil ?_
    refine X_then ?_
    refine T_cond rfl (fun h14 => ?_) (fun h14 => ?_)
    ·
      have p14 := h14
      try simp only [decide_eq_true_eq, decide_eq_false_iff_not, Bool.not_eq_true', Bool.not_eq_false', Option.isNone_iff_eq_none, ne_eq, Decidable.not_not, Int.not_lt, Int.not_le] at p14
      refine T_seq ?_
      refine T_region ?_
      refine TL_q (Qt_assign (.bool _) rfl) rfl ?_
      refine TL_nil ?_
      refine X_then ?_
      refine T_ret ?_
      refine X_then_ret ?_
      exact X_ret () [_] Try.results8 ⟨rfl, trivial⟩ rfl (Subs.st inferInstance)
    ·
      have p14 := h14
      try simp only [decide_eq_true_eq, decide_eq_false_iff_not, Bool.not_eq_true', Bool.not_eq_false', Option.isNone_iff_eq_none, ne_eq, Decidable.not_not, Int.not_lt, Int.not_le] at p14
      have hsl : ShortA l := hs14 h14
      have hl80 := hsl.1
      refine T_skip ?_
      refine X_then ?_
      refine T_seq ?_
      refine T_region ?_
      refine TL_q (Qt_move (.int .i64 _) rfl) rfl ?_
      refine TL_e rfl (Ef_call (dnew_c (n := room)) rfl (fun x16 => ?_))
      refine TL_q (Qt_move (.int .i64 _) rfl) rfl ?_
      refine TL_e rfl (Ef_call (rnew_c (n := room)) rfl (fun x18 => ?_))
      refine TL_q (Qt_assign (.pointer _) rfl) rfl ?_
      refine TL_q (Qt_assign (.pointer _) rfl) rfl ?_
      refine TL_nil ?_
      refine X_then ?_
      refine T_seq ?_
      refine T_seq ?_
      refine T_region ?_
      refine TL_q (Qt_move (.slice _ _ _) rfl) rfl ?_
      refine TL_q (Qt_len_slice rfl Try.underlying22) rfl ?_
      refine TL_q (Qt_move (.int .i64 _) rfl) rfl ?_
      refine TL_nil ?_
      refine X_then ?_
      refine T_block ?_
      refine T_loop [4, 5, 8, 9, 10, 21, 22, 23, 24, 25, 26, 27, 28, 29, 30, 31, 32, 33, 34, 35, 36, 37, 38, 39, 40, 41, 42, 43, 44, 45, 46, 47, 48, 49, 50, 51, 52, 53, 54, 55, 56, 57, 58, 59, 60, 61, 62, 63, 64, 65, 66, 67, 68, 69, 70, 71, 72, 73, 74, 75, 76, 77, 78, 79] [21, 5] (fun us H' => ∃ (k : Nat) (p : Nat) (s : DS) (r : RS) (P : PL), us = [.int .i64 (k : Int), .pointer (some ⟨p, 0, none⟩)] ∧ DS.H p s (rblk x18 r :: rrow r :: flA P.ff P.fls :: eachA P.fo P.xs :: H) = H' ∧ k ≤ l.length ∧ (s.Ok (11 + 83 * k) (2000 + 83000 * k)) ∧ (s.pend.length ≤ k) ∧ (Corr s r) ∧ (RI (srcL l) r P (1000 + 82000 * k) (82 * k))) (fun us => match us with | .int _ i :: _ => l.length - i.toNat | _ => 0) ⟨0, x16.1, newS x16.2.1 x16.2.2 room, newR room, ⟨[], [], [], []⟩, rfl, rfl, by omega, (newS_ok _ _ _).mono (by omega) (by omega), Nat.le_refl _, corr_new _ _ _, newR_ri _ _⟩ (fun w hw => Subs.st inferInstance w (St.flNil ((Subs.st inferInstance w hw : St w0 (DS.H x16.1 (newS x16.2.1 x16.2.2 room) (rblk x18 (newR room) :: rrow (newR room) :: H)) w).eachNil))) ?_
      rintro τ0 _ _  ⟨k, p, s, r, P, rfl, rfl, hk0, hok, hpl, hco, hri2⟩ _
      refine T_seq ?_
      refine T_region ?_
      refine TL_q (Qt_lss rfl rfl) rfl ?_
      refine TL_nil ?_
      refine X_then ?_
      refine T_seq ?_
      refine T_cond rfl (fun h22 => ?_) (fun h22 => ?_)
      ·
        have p22 := h22
        try simp only [decide_eq_true_eq, decide_eq_false_iff_not, Bool.not_eq_true', Bool.not_eq_false', Option.isNone_iff_eq_none, ne_eq, Decidable.not_not, Int.not_lt, Int.not_le] at p22
        have hk : k < l.length := by omega
        refine T_skip ?_
        refine X_then ?_
        refine T_seq ?_
        refine T_block ?_
        refine T_seq ?_
        refine T_region ?_
        refine TL_q (Qt_indexN rfl rfl (by omega) (by omega)) rfl ?_
        refine TL_q (Qt_val (Qt_loadRN 8 l[k].list rfl (flat_slice _ 8 RActV.list_len l k hk) (RActV.list_len _) (by decide)) (show Value.agg l[k].list.toArray = Value.agg l[k].cells from rfl)) rfl ?_
        refine TL_e rfl (Ef_allocN (fun b8 => ?_))
        refine TL_n (Ef_storeN rfl rfl (?_))
        refine TL_nil ?_
        refine X_then ?_
        refine T_seq ?_
        refine T_seq ?_
        refine T_region ?_
        refine TL_q (Qt_loadN rfl rfl) rfl ?_
        refine TL_e rfl (Ef_call (right10_c (a := l[k])) rfl (fun x26 => ?_))
        refine TL_q (Qt_not rfl) rfl ?_
        refine TL_nil ?_
        refine X_then ?_
        refine T_cond rfl (fun h27 => ?_) (fun h27 => ?_)
        ·
          have p27 := h27
          try simp only [decide_eq_true_eq, decide_eq_false_iff_not, Bool.not_eq_true', Bool.not_eq_false', Option.isNone_iff_eq_none, ne_eq, Decidable.not_not, Int.not_lt, Int.not_le] at p27
          refine T_exit ?_
          refine X_then_exit ?_
          refine X_block_exit ?_
          refine X_then ?_
          refine T_region ?_
          first
            | refine TL_q (Qt_add rfl rfl (by omega) (by omega)) rfl ?_
            | refine TL_q (Qt_addw rfl rfl) rfl ?_
          refine TL_q (Qt_move (.int .i64 _) rfl) rfl ?_
          refine TL_nil ?_
          apply X_loop
          case ha => exact (by repeat (first | with_reducible exact agree_refl | refine agree_upd rfl ?_ | refine agree_mix rfl ?_ | refine agree_setAll rfl ?_))
          case hI => exact by first | exact ⟨k + 1, x37.1, x37.2.1, x43.1, x43.2.1, rfl, rfl, by omega, hok37, by omega, hco43, hri43.mono (by omega) (by omega)⟩ | exact ⟨k + 1, p, s, r, P, rfl, rfl, by omega, hok.mono (by omega) (by omega), by omega, hco, hri2.mono (by omega) (by omega)⟩
          case hm => exact by show l.length - (k + 1 : Int).toNat < l.length - (k : Int).toNat; omega
          case hH => exact (Subs.st inferInstance)
        ·
          have p27 := h27
          try simp only [decide_eq_true_eq, decide_eq_false_iff_not, Bool.not_eq_true', Bool.not_eq_false', Option.isNone_iff_eq_none, ne_eq, Decidable.not_not, Int.not_lt, Int.not_le] at p27
          have hri : rightA l[k].kind = true := by simpa using h27
          refine T_skip ?_
          refine X_then ?_
          refine T_seq ?_
          refine T_region ?_
          refine TL_q (Qt_loadN rfl rfl) rfl ?_
          refine TL_e rfl (Ef_allocN (fun b9 => ?_))
          refine TL_n (Ef_storeN rfl rfl (?_))
          refine TL_nil ?_
          refine X_then ?_
          refine T_seq ?_
          refine T_region ?_
          refine TL_e rfl (Ef_slice0 (fun a29 c29 => ?_))
          refine TL_q (Qt_fieldAddr 3 rfl rfl) rfl ?_
          have hrb := rl l[k] (List.getElem_mem hk)
          refine TL_q (Qt_load1 rfl) rfl ?_
          refine TL_e rfl (Ef_appendB (sv := .slice _ _ _) (xv := .slice _ _ _) rfl rfl (by have := hsl.2 l[k] (List.getElem_mem hk); simp; omega) rfl (fun a32 c32 => ?_))
          rw [List.nil_append]
          refine TL_q (Qt_fieldAddr 3 rfl rfl) rfl ?_
          refine TL_n (Ef_store1 (.slice _ _ _) rfl rfl (?_))
          refine TL_nil ?_
          refine X_then ?_
          refine T_seq ?_
          refine T_region ?_
          refine TL_q (Qt_assign (.int .i64 _) rfl) rfl ?_
          refine TL_nil ?_
          refine X_then ?_
          refine T_seq ?_
          refine T_region ?_
          refine TL_q (Qt_move (.pointer _) rfl) rfl ?_
          refine TL_q (Qt_loadN rfl rfl) rfl ?_
          obtain ⟨kp, hkp⟩ := Int.eq_ofNat_of_zero_le (kl l[k] (List.getElem_mem hk)).1
          have hkl := (kl l[k] (List.getElem_mem hk)).2
          have hpe := hco.pend.len
          refine TL_conv (fun w hw => (Subs.st inferInstance w hw : St w0 (DS.H p s (row (.slice a32 l[k].b.l.length c32) 5 1 (bytesV l[k].b.l) :: blk b9 (.cells (ownA l[k] a32 c32).cells 34 (0, 0)) :: blk b8 (.cells l[k].cells 34 (0, 0)) :: rblk x18 r :: rrow r :: flA P.ff P.fls :: eachA P.fo P.xs :: H)) w)) ?_
          refine TL_e rfl (Ef_call (do12_c (p := p) (s := s) hok (by omega) (by omega) (by omega) (ra := (ownA l[k] a32 c32)) (by have := hsl.2 l[k] (List.getElem_mem hk); exact Nat.le_trans this (by omega)) (of_decide_eq_true hri) hkp (by omega)) rfl (fun x37 => ?_))
          refine TL_pure (fun h37 => ?_)
          replace h37 : StepX (11 + 83 * k) (2000 + 83000 * k) l[k] s x37.2.1 x37.2.2 := h37.1
          have hok37 := (h37.toR.ok hok (by omega) (by have := hsl.2 l[k] (List.getElem_mem hk); omega) (nl _ (List.getElem_mem hk))).mono (N' := 11 + 83 * (k + 1)) (M' := 2000 + 83000 * (k + 1)) (by omega) (by omega)
          have hpl37 := h37.toR.pend
          refine TL_q (Qt_move (.tuple _) rfl) rfl ?_
          refine TL_q (Qt_extract rfl) rfl ?_
          refine TL_q (Qt_extract rfl) rfl ?_
          refine TL_q (Qt_assign (.pointer _) rfl) rfl ?_
          refine TL_q (Qt_assign (.int .i64 _) rfl) rfl ?_
          refine TL_nil ?_
          refine X_then ?_
          refine T_seq ?_
          refine T_draw (blk b8 (.cells l[k].cells 34 (0, 0)) :: H) [(0, true), (1, true), (2, true), (3, false), (4, true), (5, true), (6, true), (8, true), (9, true), (10, true), (11, true), (7, false), (12, true), (13, true), (14, true), (15, true), (16, true), (17, false), (18, false), (19, true), (20, true), (21, true), (22, true), (24, true), (25, true), (26, true), (27, true), (28, true), (23, false), (29, true), (30, true), (31, true), (32, true), (33, true), (34, true), (35, true), (36, false), (37, true), (38, true)] (by kernel_rfl) (by kernel_rfl) rfl (by kernel_rfl) (Subs.st inferInstance) (fun hns0 => ?_)
          refine DL_q hns0 rfl (Qt_move (.int .i64 _) rfl) rfl ?_
          refine DL_q hns0 rfl (Qt_move (.pointer _) rfl) rfl ?_
          refine DL_q hns0 rfl (Qt_loadN rfl rfl) rfl ?_
          refine DL_conv (fun w hw => (Subs.st inferInstance w hw : St w0 (rblk x18 r :: rrow r :: flA P.ff P.fls :: eachA P.fo P.xs :: DS.H x37.1 x37.2.1 (row (.slice a32 l[k].b.l.length c32) 5 1 (bytesV l[k].b.l) :: blk b9 (.cells (ownA l[k] a32 c32).cells 34 (0, 0)) :: blk b8 (.cells l[k].cells 34 (0, 0)) :: H)) w)) ?_
          refine DL_e rfl rfl (Ef_call (rdo_c (q := x18) (s := r) (P := P) (Src := srcL l) (fun b hb => RdB.conv (srcL_rd rl b hb) (fun w hw => Subs.st inferInstance w hw)) hri2 (by omega) (by omega) (by omega) (by omega) (by rw [← hco.fu]; exact hok.fuse1) (ra := l[k]) (kp := kp) hkp (by omega) (by have := hsl.2 l[k] (List.getElem_mem hk); omega) (of_decide_eq_true hri) (fun m => ⟨l[k], List.getElem_mem hk, m, rfl⟩)) rfl (fun x43 => ⟨(Subs.st inferInstance), ?_⟩))
          refine DL_pure (fun h43 => ?_)
          obtain ⟨⟨L, hL, hrd⟩, hri43⟩ := h43
          obtain ⟨hee, hco43⟩ := corr_step hco hok.good1 hok.good2 (of_decide_eq_true hri) hkp h37 hL hrd
          refine DL_re (rblk x18 x43.1 :: row (.slice a32 l[k].b.l.length c32) 5 1 (bytesV l[k].b.l) :: blk b9 (.cells (ownA l[k] a32 c32).cells 34 (0, 0)) :: blk b8 (.cells l[k].cells 34 (0, 0)) :: H) (Subs.st inferInstance) (Subs.st inferInstance) ?_
          refine DL_q hns0 rfl (Qt_neq rfl rfl) rfl ?_
          refine DL_q hns0 rfl (Qt_move (.bool _) rfl) rfl ?_
          refine DL_split 45 rfl (fun h45 => ?_) (fun h45 => ?_)
          ·
            have p45 := h45
            try simp only [decide_eq_true_eq, decide_eq_false_iff_not, Bool.not_eq_true', Bool.not_eq_false', Option.isNone_iff_eq_none, ne_eq, Decidable.not_not, Int.not_lt, Int.not_le] at p45
            exfalso
            simp [hee] at h45
          ·
            have p45 := h45
            try simp only [decide_eq_true_eq, decide_eq_false_iff_not, Bool.not_eq_true', Bool.not_eq_false', Option.isNone_iff_eq_none, ne_eq, Decidable.not_not, Int.not_lt, Int.not_le] at p45
            refine DL_qg hns0 rfl rfl rfl h45 (Qt_move (.pointer _) rfl) rfl ?_
            refine DL_qg hns0 rfl rfl rfl h45 (Qt_move (.pointer _) rfl) rfl ?_
            refine DL_qg hns0 rfl rfl rfl h45 (Qt_nilCheck rfl) rfl ?_
            refine DL_qg hns0 rfl rfl rfl h45 (Qt_fieldAddr 4 rfl rfl) rfl ?_
            refine DL_qg hns0 rfl rfl rfl h45 (Qt_load1 rfl) rfl ?_
            refine DL_conv (fun w hw => (Subs.st inferInstance w hw : St w0 (DS.H x37.1 x37.2.1 (rblk x18 x43.1 :: rrow x43.1 :: flA x43.2.1.ff x43.2.1.fls :: eachA x43.2.1.fo x43.2.1.xs :: row (.slice a32 l[k].b.l.length c32) 5 1 (bytesV l[k].b.l) :: blk b9 (.cells (ownA l[k] a32 c32).cells 34 (0, 0)) :: blk b8 (.cells l[k].cells 34 (0, 0)) :: H)) w)) ?_
            refine DL_eg rfl rfl rfl h45 rfl (Ef_call (ddown_c (p := x37.1) (s := x37.2.1)) rfl (fun x47 => ⟨(Subs.st inferInstance), ?_⟩))
            refine DL_qg hns0 rfl rfl rfl h45 (Qt_bool_neq rfl rfl Try.underlying4) rfl ?_
            refine DL_q hns0 rfl (Qt_pick_f (.bool _) rfl h45 rfl) rfl ?_
            refine DL_q hns0 rfl (Qt_move (.bool _) rfl) rfl ?_
            refine DL_split 54 rfl (fun h54 => ?_) (fun h54 => ?_)
            ·
              have p54 := h54
              try simp only [decide_eq_true_eq, decide_eq_false_iff_not, Bool.not_eq_true', Bool.not_eq_false', Option.isNone_iff_eq_none, ne_eq, Decidable.not_not, Int.not_lt, Int.not_le] at p54
              exfalso
              simp [hco43.dn] at h54
            ·
              have p54 := h54
              try simp only [decide_eq_true_eq, decide_eq_false_iff_not, Bool.not_eq_true', Bool.not_eq_false', Option.isNone_iff_eq_none, ne_eq, Decidable.not_not, Int.not_lt, Int.not_le] at p54
              refine DL_qg hns0 rfl rfl rfl h54 (Qt_move (.pointer _) rfl) rfl ?_
              refine DL_qg hns0 rfl rfl rfl h54 (Qt_move (.pointer _) rfl) rfl ?_
              have hpe43 := hco43.pend.len
              have hri57 : RI (srcL l) x43.1 x43.2.1 (1000 + 82000 * 80) (82 * 80) := hri43.mono (by omega) (by omega)
              have hok57 : RSOk w0 (flA x43.2.1.ff x43.2.1.fls :: eachA x43.2.1.fo x43.2.1.xs :: DS.H x37.1 x37.2.1 (row (.slice a32 l[k].b.l.length c32) 5 1 (bytesV l[k].b.l) :: blk b9 (.cells (ownA l[k] a32 c32).cells 34 (0, 0)) :: blk b8 (.cells l[k].cells 34 (0, 0)) :: H)) x43.1 (1000 + 82000 * 80) (82 * 80) := (hri57.ok (srcL_rd rl)).conv (fun w hw => Subs.st inferInstance w hw)
              refine DL_conv (fun w hw => (Subs.st inferInstance w hw : St w0 (rblk x18 x43.1 :: rrow x43.1 :: flA x43.2.1.ff x43.2.1.fls :: eachA x43.2.1.fo x43.2.1.xs :: DS.H x37.1 x37.2.1 (row (.slice a32 l[k].b.l.length c32) 5 1 (bytesV l[k].b.l) :: blk b9 (.cells (ownA l[k] a32 c32).cells 34 (0, 0)) :: blk b8 (.cells l[k].cells 34 (0, 0)) :: H)) w)) ?_
              refine DL_eg rfl rfl rfl h54 rfl (Ef_call (rnow_c (q := x18) (s := x43.1) (B := 1000 + 82000 * 80) (N := 82 * 80) hok57 (by omega) (by omega) (by omega)) rfl (fun x57 => ⟨(Subs.st inferInstance), ?_⟩))
              refine DL_pure (fun h57 => ?_)
              have hkP : KeyL x37.2.1.e2 := hco43.key2.keyL
              have hM : Rep x57.M.ls (cont x37.2.1.e2) := hco43.now (fun f hf => by have := h57.rep f hf; rwa [List.take_length] at this)
              have hfin : x57.M.ls.map fileD = filesE x37.2.1.e2 := hM.files hok37.good2
              have hat : RdC w0 (flA x57.ff x57.fls :: eachA x57.fo x57.xs :: rblk x18 x43.1 :: rrow x43.1 :: flA x43.2.1.ff x43.2.1.fls :: eachA x43.2.1.fo x43.2.1.xs :: row (.slice a32 l[k].b.l.length c32) 5 1 (bytesV l[k].b.l) :: blk b9 (.cells (ownA l[k] a32 c32).cells 34 (0, 0)) :: blk b8 (.cells l[k].cells 34 (0, 0)) :: H) (.slice x57.M.a x57.M.ls.length x57.M.c) 2 (x57.M.ls.flatMap FileV.list) := ⟨fun w hw => (h57.at ((hri57.ok (srcL_rd rl)).conv (H' := flA x43.2.1.ff x43.2.1.fls :: eachA x43.2.1.fo x43.2.1.xs :: H) (fun w hw => Subs.st inferInstance w hw))).rd w (Subs.st inferInstance w hw)⟩
              have hre : RdE w0 (flA x57.ff x57.fls :: eachA x57.fo x57.xs :: rblk x18 x43.1 :: rrow x43.1 :: flA x43.2.1.ff x43.2.1.fls :: eachA x43.2.1.fo x43.2.1.xs :: row (.slice a32 l[k].b.l.length c32) 5 1 (bytesV l[k].b.l) :: blk b9 (.cells (ownA l[k] a32 c32).cells 34 (0, 0)) :: blk b8 (.cells l[k].cells 34 (0, 0)) :: H) (x57.M.ls.map (·.b)) := ⟨fun z hz w hw => (h57.rd ((hri57.ok (srcL_rd rl)).conv (H' := flA x43.2.1.ff x43.2.1.fls :: eachA x43.2.1.fo x43.2.1.xs :: H) (fun w hw => Subs.st inferInstance w hw))).rd z hz w (Subs.st inferInstance w hw)⟩
              refine DL_conv (fun w hw => (Subs.st inferInstance w hw : St w0 (DS.H x37.1 x37.2.1 (flA x57.ff x57.fls :: eachA x57.fo x57.xs :: rblk x18 x43.1 :: rrow x43.1 :: flA x43.2.1.ff x43.2.1.fls :: eachA x43.2.1.fo x43.2.1.xs :: row (.slice a32 l[k].b.l.length c32) 5 1 (bytesV l[k].b.l) :: blk b9 (.cells (ownA l[k] a32 c32).cells 34 (0, 0)) :: blk b8 (.cells l[k].cells 34 (0, 0)) :: H)) w)) ?_
              refine DL_eg rfl rfl rfl h54 rfl (Ef_call (dsame_c (p := x37.1) (s := x37.2.1) hok37 (by omega) (by omega) hkP (L := x57.M.ls) (a := x57.M.a) (c := x57.M.c) hfin) rfl (fun x58 => ⟨(Subs.st inferInstance), ?_⟩))
              refine DL_qg hns0 rfl rfl rfl h54 (Qt_not rfl) rfl ?_
              refine DL_q hns0 rfl (Qt_pick_f (.bool _) rfl h54 rfl) rfl ?_
              refine DL_q hns0 rfl (Qt_move (.bool _) rfl) rfl ?_
              refine DL_split 61 rfl (fun h61 => ?_) (fun h61 => ?_)
              ·
                have p61 := h61
                try simp only [decide_eq_true_eq, decide_eq_false_iff_not, Bool.not_eq_true', Bool.not_eq_false', Option.isNone_iff_eq_none, ne_eq, Decidable.not_not, Int.not_lt, Int.not_le] at p61
                cases h61
              ·
                have p61 := h61
                try simp only [decide_eq_true_eq, decide_eq_false_iff_not, Bool.not_eq_true', Bool.not_eq_false', Option.isNone_iff_eq_none, ne_eq, Decidable.not_not, Int.not_lt, Int.not_le] at p61
                refine DL_qg hns0 rfl rfl rfl h61 (Qt_move (.pointer _) rfl) rfl ?_
                refine DL_qg hns0 rfl rfl rfl h61 (Qt_move (.pointer _) rfl) rfl ?_
                refine DL_qg hns0 rfl rfl rfl h61 (Qt_nilCheck rfl) rfl ?_
                refine DL_qg hns0 rfl rfl rfl h61 (Qt_fieldAddr 2 rfl rfl) rfl ?_
                refine DL_qg hns0 rfl rfl rfl h61 (Qt_load1 rfl) rfl ?_
                refine DL_qg hns0 rfl rfl rfl h61 (Qt_len_slice rfl Try.underlying22) rfl ?_
                refine DL_eg rfl rfl rfl h61 rfl (Ef_call (pending_c (p := x37.1) (s := x37.2.1)) rfl (fun x63 => ⟨(Subs.st inferInstance), ?_⟩))
                refine DL_qg hns0 rfl rfl rfl h61 (Qt_neq rfl rfl) rfl ?_
                refine DL_q hns0 rfl (Qt_pick_f (.bool _) rfl h61 rfl) rfl ?_
                refine DL_q hns0 rfl (Qt_move (.bool _) rfl) rfl ?_
                refine DL_split 71 rfl (fun h71 => ?_) (fun h71 => ?_)
                ·
                  have p71 := h71
                  try simp only [decide_eq_true_eq, decide_eq_false_iff_not, Bool.not_eq_true', Bool.not_eq_false', Option.isNone_iff_eq_none, ne_eq, Decidable.not_not, Int.not_lt, Int.not_le] at p71
                  exfalso
                  have := hco43.pend.len
                  simp [this] at h71
                ·
                  have p71 := h71
                  try simp only [decide_eq_true_eq, decide_eq_false_iff_not, Bool.not_eq_true', Bool.not_eq_false', Option.isNone_iff_eq_none, ne_eq, Decidable.not_not, Int.not_lt, Int.not_le] at p71
                  refine DL_qg hns0 rfl rfl rfl h71 (Qt_fieldAddr 3 rfl rfl) rfl ?_
                  refine DL_qg hns0 rfl rfl rfl h71 (Qt_load1 rfl) rfl ?_
                  refine DL_qg hns0 rfl rfl rfl h71 (Qt_fieldAddr 3 rfl rfl) rfl ?_
                  refine DL_qg hns0 rfl rfl rfl h71 (Qt_load1 rfl) rfl ?_
                  refine DL_eg rfl rfl rfl h71 rfl (Ef_call (same_c (l := l[k].b.l) (l2 := l[k].b.l) (by have := hsl.2 l[k] (List.getElem_mem hk); omega)) rfl (fun x76 => ⟨(Subs.st inferInstance), ?_⟩))
                  refine DL_qg hns0 rfl rfl rfl h71 (Qt_not rfl) rfl ?_
                  refine DL_q hns0 rfl (Qt_pick_f (.bool _) rfl h71 rfl) rfl ?_
                  refine DL_nil ?_
                  refine X_then ?_
                  refine T_cond rfl (fun h78 => ?_) (fun h78 => ?_)
                  ·
                    have p78 := h78
                    try simp only [decide_eq_true_eq, decide_eq_false_iff_not, Bool.not_eq_true', Bool.not_eq_false', Option.isNone_iff_eq_none, ne_eq, Decidable.not_not, Int.not_lt, Int.not_le] at p78
                    exfalso
                    simp at h78
                  ·
                    have p78 := h78
                    try simp only [decide_eq_true_eq, decide_eq_false_iff_not, Bool.not_eq_true', Bool.not_eq_false', Option.isNone_iff_eq_none, ne_eq, Decidable.not_not, Int.not_lt, Int.not_le] at p78
                    refine T_skip ?_
                    refine X_block ?_
                    refine X_then ?_
                    refine T_region ?_
                    first
                      | refine TL_q (Qt_add rfl rfl (by omega) (by omega)) rfl ?_
                      | refine TL_q (Qt_addw rfl rfl) rfl ?_
                    refine TL_q (Qt_move (.int .i64 _) rfl) rfl ?_
                    refine TL_nil ?_
                    apply X_loop
                    case ha => exact (by repeat (first | with_reducible exact agree_refl | refine agree_upd rfl ?_ | refine agree_mix rfl ?_ | refine agree_setAll rfl ?_))
                    case hI => exact by first | exact ⟨k + 1, x37.1, x37.2.1, x43.1, x43.2.1, rfl, rfl, by omega, hok37, by omega, hco43, hri43.mono (by omega) (by omega)⟩ | exact ⟨k + 1, p, s, r, P, rfl, rfl, by omega, hok.mono (by omega) (by omega), by omega, hco, hri2.mono (by omega) (by omega)⟩
                    case hm => exact by show l.length - (k + 1 : Int).toNat < l.length - (k : Int).toNat; omega
                    case hH => exact (Subs.st inferInstance)
      ·
        have p22 := h22
        try simp only [decide_eq_true_eq, decide_eq_false_iff_not, Bool.not_eq_true', Bool.not_eq_false', Option.isNone_iff_eq_none, ne_eq, Decidable.not_not, Int.not_lt, Int.not_le] at p22
        refine T_exit ?_
        refine X_then_exit ?_
        refine X_loop_exit ?_
        refine X_block_exit ?_
        refine X_then ?_
        refine T_seq ?_
        refine T_region ?_
        refine TL_q (Qt_assign (.bool _) rfl) rfl ?_
        refine TL_nil ?_
        refine X_then ?_
        refine T_ret ?_
        exact X_ret () [.bool true] Try.results8 ⟨rfl, trivial⟩ rfl (Subs.st inferInstance)
end Go.Proofs.Ytededghplnoajaa
