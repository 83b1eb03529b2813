/- Walks: the law DiskSynced. -/
import Derived.Test.YtededghplnoajaaDg
namespace Go.Proofs.Ytededghplnoajaa
open Go.RowKit Go.Sx
set_option maxRecDepth 100000
set_option linter.unusedSimpArgs false
set_option linter.unusedVariables false
def KP : ByteArray := ⟨#[107, 101, 112, 116]⟩
theorem SyncR.alive {s s' : DS} (h : SyncR s s') (hf : s.fuse = -1) (hd : s.down = false) : s'.e1 = s.e2 ∧ s'.e2 = s.e2 ∧ s'.pend = [] := by
  rcases h with ⟨h, -⟩ | ⟨-, q1, q2, rfl⟩
  · rw [hf, hd] at h; cases h
  · exact ⟨rfl, rfl, rfl⟩
theorem CrashR.keepE {s s' : DS} {N M kp : Nat} {torn : Int} {key : ByteArray} (h : CrashR s N M kp torn s') (hp : ∀ a ∈ s.pend, a.name ≠ key ∧ a.to ≠ key) : getE s'.e2 key = getE s.e1 key := by
  obtain ⟨e1, c1, q, fp, bs, hc, rfl⟩ := h
  exact hc.keep key fun a ha => hp a (List.mem_of_mem_take ha)
theorem DoA.pendK {kind : Int} {nm to key : ByteArray} {s s' : DS} (h : DoA kind nm to s s') (hk : kind < 4) (h1 : nm ≠ key) (h2 : to ≠ key) (h3 : (⟨#[]⟩ : ByteArray) ≠ key) (hs : ∀ a ∈ s.pend, a.name ≠ key ∧ a.to ≠ key) : ∀ a ∈ s'.pend, a.name ≠ key ∧ a.to ≠ key := by
  intro a ha
  rcases (h.2.2 (by omega)).2 a ha with h | ⟨h, h' | h'⟩
  · exact hs a h
  · exact ⟨h ▸ h1, h' ▸ h2⟩
  · exact ⟨h ▸ h1, h' ▸ h3⟩
set_option maxHeartbeats 1000000 in
theorem diskSynced_c {w0 : World} {H : List SA} {a a2 : Option Addr} {l m : List RActV} {c c2 : Nat} {kp : Nat} {torn cut : Int} (hkp : kp < 18446744073709551616) [hr : RdC w0 H (.slice a l.length c) 8 (l.flatMap RActV.list)] [hr2 : RdC w0 H (.slice a2 m.length c2) 8 (m.flatMap RActV.list)] (rl : ∀ x ∈ l, RdB w0 H (.slice x.b.a x.b.l.length x.b.c) x.b.l) (rm : ∀ x ∈ m, RdB w0 H (.slice x.b.a x.b.l.length x.b.c) x.b.l) (kl : ∀ x ∈ l, 0 ≤ x.p.keep ∧ x.p.keep < 18446744073709551616) (km : ∀ x ∈ m, 0 ≤ x.p.keep ∧ x.p.keep < 18446744073709551616) :
    CT Try.prog w0 (H) 3 [.slice a l.length c, .slice a2 m.length c2, .agg (PlanV.mk (kp : Int) torn cut).cells] (α := Unit) (fun _ => .bool true) (fun _ => H) := by
  refine CT_intro Try.func3 rfl Try.ntmps3 rfl ?_
  refine T_seq ?_
  refine T_region ?_
  refine TL_e rfl (Ef_boxN rfl (fun b5 => ?_))
  refine TL_q (Qt_assign (.bool _) rfl) rfl ?_
  refine TL_nil ?_
  refine X_then ?_
  refine T_seq ?_
  refine T_seq ?_
  refine T_region ?_
  refine TL_e rfl (Ef_call (wakes10_c) rfl (fun x16 => ?_))
  refine TL_q (Qt_not rfl) rfl ?_
  refine TL_nil ?_
  refine X_then ?_
  refine T_cond rfl (fun h17 => ?_) (fun h17 => ?_)
  ·
    have p17 := h17
    try simp only [decide_eq_true_eq, decide_eq_false_iff_not, Bool.not_eq_true', Bool.not_eq_false', Option.isNone_iff_eq_none, ne_eq, Decidable.not_not, Int.not_lt, Int.not_le] at p17
    cases h17
  ·
    have p17 := h17
    try simp only [decide_eq_true_eq, decide_eq_false_iff_not, Bool.not_eq_true', Bool.not_eq_false', Option.isNone_iff_eq_none, ne_eq, Decidable.not_not, Int.not_lt, Int.not_le] at p17
    refine T_skip ?_
    refine X_then ?_
    refine T_seq ?_
    refine T_seq ?_
    refine T_region ?_
    refine TL_q (Qt_move (.slice _ _ _) rfl) rfl ?_
    refine TL_e rfl (Ef_call (long10_c (l := l)) rfl (fun x19 => ?_))
    refine TL_pure (fun h19 => ?_)
    refine TL_q (Qt_move (.bool _) rfl) rfl ?_
    refine TL_split 20 rfl (fun h20 => ?_) (fun h20 => ?_)
    ·
      have p20 := h20
      try simp only [decide_eq_true_eq, decide_eq_false_iff_not, Bool.not_eq_true', Bool.not_eq_false', Option.isNone_iff_eq_none, ne_eq, Decidable.not_not, Int.not_lt, Int.not_le] at p20
      refine TL_pass rfl rfl h20 rfl ?_
      refine TL_pass rfl rfl h20 rfl ?_
      refine TL_q (Qt_pick_t (.bool _) rfl h20 rfl) rfl ?_
      refine TL_nil ?_
      refine X_then ?_
      refine T_cond_true rfl rfl ?_
      refine T_seq ?_
      refine T_region ?_
      refine TL_q (Qt_assign (.bool _) rfl) rfl ?_
      refine TL_nil ?_
      refine X_then ?_
      refine T_ret ?_
      refine X_then_ret ?_
      exact X_ret () [_] Try.results3 ⟨rfl, trivial⟩ rfl (Subs.st inferInstance)
    ·
      have p20 := h20
      try simp only [decide_eq_true_eq, decide_eq_false_iff_not, Bool.not_eq_true', Bool.not_eq_false', Option.isNone_iff_eq_none, ne_eq, Decidable.not_not, Int.not_lt, Int.not_le] at p20
      have hsl : ShortA l := h19 h20
      have hl80 := hsl.1
      refine TL_take rfl rfl h20 ?_
      refine TL_q (Qt_move (.slice _ _ _) rfl) rfl ?_
      refine TL_take rfl rfl h20 ?_
      refine TL_e rfl (Ef_call (long10_c (l := m)) rfl (fun x22 => ?_))
      refine TL_pure (fun h22 => ?_)
      refine TL_q (Qt_pick_f (.bool _) rfl h20 rfl) rfl ?_
      refine TL_nil ?_
      refine X_then ?_
      refine T_cond rfl (fun h23 => ?_) (fun h23 => ?_)
      ·
        have p23 := h23
        try simp only [decide_eq_true_eq, decide_eq_false_iff_not, Bool.not_eq_true', Bool.not_eq_false', Option.isNone_iff_eq_none, ne_eq, Decidable.not_not, Int.not_lt, Int.not_le] at p23
        refine T_seq ?_
        refine T_region ?_
        refine TL_q (Qt_assign (.bool _) rfl) rfl ?_
        refine TL_nil ?_
        refine X_then ?_
        refine T_ret ?_
        refine X_then_ret ?_
        exact X_ret () [_] Try.results3 ⟨rfl, trivial⟩ rfl (Subs.st inferInstance)
      ·
        have p23 := h23
        try simp only [decide_eq_true_eq, decide_eq_false_iff_not, Bool.not_eq_true', Bool.not_eq_false', Option.isNone_iff_eq_none, ne_eq, Decidable.not_not, Int.not_lt, Int.not_le] at p23
        have hsm : ShortA m := h22 h23
        have hm80 := hsm.1
        refine T_skip ?_
        refine X_then ?_
        refine T_seq ?_
        refine T_region ?_
        refine TL_e rfl (Ef_call (dnew_c (n := 131072)) rfl (fun x24 => ?_))
        refine TL_q (Qt_assign (.pointer _) rfl) rfl ?_
        refine TL_nil ?_
        refine X_then ?_
        refine T_seq ?_
        refine T_region ?_
        refine TL_q (Qt_move (.pointer _) rfl) rfl ?_
        refine TL_e rfl (Ef_sliceN (m := ([1, 2, 3] : List UInt8).length) [.int .u8 1, .int .u8 2, .int .u8 3] (bytesV [1, 2, 3]) rfl rfl rfl rfl (by simp [Value.cells]) rfl rfl (fun a26 c26 => ?_))
        have hok0 : (newS x24.2.1 x24.2.2 131072).Ok 10 1000 := (newS_ok _ _ _).mono (by decide) (by decide)
        refine TL_conv (fun w hw => (Subs.st inferInstance w hw : St w0 (DS.H x24.1 (newS x24.2.1 x24.2.2 131072) (row (.slice a26 ([1, 2, 3] : List UInt8).length c26) 5 1 (bytesV [1, 2, 3]) :: blk b5 (.cells (PlanV.mk (kp : Int) torn cut).cells 25 (0, 0)) :: H)) w)) ?_
        refine TL_e rfl (Ef_call (write_c (p := x24.1) (s := newS x24.2.1 x24.2.2 131072) hok0 (by decide) (by decide) (nm := KP) (b := ⟨a26, c26, [1, 2, 3]⟩) (by simp) (by simp)) rfl (fun x27 => ?_))
        refine TL_pure (fun h27 => ?_)
        have hok1 := h27.ok hok0 (by simp) (by simp)
        have hd1 := h27.doA (kind := 2) (to := ⟨#[]⟩)
        refine TL_nil ?_
        refine X_then ?_
        refine T_seq ?_
        refine T_seq ?_
        refine T_region ?_
        refine TL_q (Qt_move (.slice _ _ _) rfl) rfl ?_
        refine TL_q (Qt_len_slice rfl Try.underlying22) rfl ?_
        refine TL_q (Qt_move (.int .i64 _) rfl) rfl ?_
        refine TL_nil ?_
        refine X_then ?_
        refine T_block ?_
        refine T_loop [7, 9, 30, 31, 32, 33, 34, 35, 36, 37, 38, 39, 40, 41, 42, 43, 44, 45, 46, 47, 48, 49, 50, 51, 52, 53, 54, 55, 56, 57] [30, 7] (fun us H' => ∃ (k : Nat) (s : DS), us = [.int .i64 (k : Int), .pointer (some ⟨x24.1, 0, none⟩)] ∧ DS.H x24.1 s (blk b5 (.cells (PlanV.mk (kp : Int) torn cut).cells 25 (0, 0)) :: H) = H' ∧ k ≤ l.length ∧ (s.Ok (11 + 83 * k) (2000 + 83000 * k)) ∧ (s.fuse = -1 ∧ s.down = false) ∧ (s.pend.length ≤ k + 1)) (fun us => match us with | .int _ i :: _ => l.length - i.toNat | _ => 0) ⟨0, x27.1, rfl, rfl, by omega, hok1.mono (by omega) (by omega), hd1.1 rfl rfl, hd1.2.1⟩ (Subs.st inferInstance) ?_
        rintro τ0 _ _  ⟨k, s, rfl, rfl, hk0, hok, hfd, hpl⟩ _
        refine T_seq ?_
        refine T_region ?_
        refine TL_q (Qt_lss rfl rfl) rfl ?_
        refine TL_nil ?_
        refine X_then ?_
        refine T_seq ?_
        refine T_cond rfl (fun h31 => ?_) (fun h31 => ?_)
        ·
          have p31 := h31
          try simp only [decide_eq_true_eq, decide_eq_false_iff_not, Bool.not_eq_true', Bool.not_eq_false', Option.isNone_iff_eq_none, ne_eq, Decidable.not_not, Int.not_lt, Int.not_le] at p31
          have hk : k < l.length := by omega
          refine T_skip ?_
          refine X_then ?_
          refine T_seq ?_
          refine T_block ?_
          refine T_seq ?_
          refine T_region ?_
          refine TL_q (Qt_indexN rfl rfl (by omega) (by omega)) rfl ?_
          refine TL_q (Qt_val (Qt_loadRN 8 l[k].list rfl (flat_slice _ 8 RActV.list_len l k hk) (RActV.list_len _) (by decide)) (show Value.agg l[k].list.toArray = Value.agg l[k].cells from rfl)) rfl ?_
          refine TL_e rfl (Ef_allocN (fun b9 => ?_))
          refine TL_n (Ef_storeN rfl rfl (?_))
          refine TL_nil ?_
          refine X_then ?_
          refine T_seq ?_
          refine T_region ?_
          refine TL_q (Qt_loadN rfl rfl) rfl ?_
          refine TL_e rfl (Ef_call (right10_c (a := l[k])) rfl (fun x35 => ?_))
          refine TL_q (Qt_move (.bool _) rfl) rfl ?_
          refine TL_split 36 rfl (fun h36 => ?_) (fun h36 => ?_)
          ·
            have p36 := h36
            try simp only [decide_eq_true_eq, decide_eq_false_iff_not, Bool.not_eq_true', Bool.not_eq_false', Option.isNone_iff_eq_none, ne_eq, Decidable.not_not, Int.not_lt, Int.not_le] at p36
            refine TL_take rfl rfl h36 ?_
            refine TL_q (Qt_fieldAddr 0 rfl rfl) rfl ?_
            refine TL_take rfl rfl h36 ?_
            refine TL_q (Qt_load1 rfl) rfl ?_
            refine TL_take rfl rfl h36 ?_
            refine TL_q (Qt_lss rfl rfl) rfl ?_
            refine TL_q (Qt_pick_t (.bool _) rfl h36 rfl) rfl ?_
            refine TL_q (Qt_move (.bool _) rfl) rfl ?_
            refine TL_split 41 rfl (fun h41 => ?_) (fun h41 => ?_)
            ·
              have p41 := h41
              try simp only [decide_eq_true_eq, decide_eq_false_iff_not, Bool.not_eq_true', Bool.not_eq_false', Option.isNone_iff_eq_none, ne_eq, Decidable.not_not, Int.not_lt, Int.not_le] at p41
              refine TL_take rfl rfl h41 ?_
              refine TL_q (Qt_fieldAddr 1 rfl rfl) rfl ?_
              refine TL_take rfl rfl h41 ?_
              refine TL_q (Qt_load1 rfl) rfl ?_
              refine TL_take rfl rfl h41 ?_
              refine TL_q (Qt_str_neq rfl rfl) rfl ?_
              refine TL_q (Qt_pick_t (.bool _) rfl h41 rfl) rfl ?_
              refine TL_q (Qt_move (.bool _) rfl) rfl ?_
              refine TL_split 46 rfl (fun h46 => ?_) (fun h46 => ?_)
              ·
                have p46 := h46
                try simp only [decide_eq_true_eq, decide_eq_false_iff_not, Bool.not_eq_true', Bool.not_eq_false', Option.isNone_iff_eq_none, ne_eq, Decidable.not_not, Int.not_lt, Int.not_le] at p46
                refine TL_take rfl rfl h46 ?_
                refine TL_q (Qt_fieldAddr 2 rfl rfl) rfl ?_
                refine TL_take rfl rfl h46 ?_
                refine TL_q (Qt_load1 rfl) rfl ?_
                refine TL_take rfl rfl h46 ?_
                refine TL_q (Qt_str_neq rfl rfl) rfl ?_
                refine TL_q (Qt_pick_t (.bool _) rfl h46 rfl) rfl ?_
                refine TL_nil ?_
                refine X_then ?_
                refine T_cond rfl (fun h50 => ?_) (fun h50 => ?_)
                ·
                  have p50 := h50
                  try simp only [decide_eq_true_eq, decide_eq_false_iff_not, Bool.not_eq_true', Bool.not_eq_false', Option.isNone_iff_eq_none, ne_eq, Decidable.not_not, Int.not_lt, Int.not_le] at p50
                  refine T_region ?_
                  refine TL_q (Qt_move (.pointer _) rfl) rfl ?_
                  refine TL_q (Qt_loadN rfl rfl) rfl ?_
                  have := rl l[k] (List.getElem_mem hk)
                  refine TL_conv (fun w hw => (Subs.st inferInstance w hw : St w0 (DS.H x24.1 s (blk b9 (.cells l[k].cells 34 (0, 0)) :: blk b5 (.cells (PlanV.mk (kp : Int) torn cut).cells 25 (0, 0)) :: H)) w)) ?_
                  refine TL_e rfl (Ef_call (do10R_c (p := x24.1) (s := s) hok (by omega) (by omega) (by omega) (ra := l[k]) (by have := hsl.2 l[k] (List.getElem_mem hk); omega) (kl _ (List.getElem_mem hk)) (by omega) (of_decide_eq_true h36).1) rfl (fun x54 => ?_))
                  refine TL_pure (fun h54 => ?_)
                  have hfd54 := h54.1.1 hfd.1 hfd.2
                  have hpl54 := h54.1.2.1
                  refine TL_q (Qt_move (.tuple _) rfl) rfl ?_
                  refine TL_q (Qt_extract rfl) rfl ?_
                  refine TL_q (Qt_extract rfl) rfl ?_
                  refine TL_q (Qt_assign (.pointer _) rfl) rfl ?_
                  refine TL_nil ?_
                  refine X_block ?_
                  refine X_then ?_
                  refine T_region ?_
                  first
                    | refine TL_q (Qt_add rfl rfl (by omega) (by omega)) rfl ?_
                    | refine TL_q (Qt_addw rfl rfl) rfl ?_
                  refine TL_q (Qt_move (.int .i64 _) rfl) rfl ?_
                  refine TL_nil ?_
                  apply X_loop
                  case ha => exact (by repeat (first | with_reducible exact agree_refl | refine agree_upd rfl ?_ | refine agree_mix rfl ?_ | refine agree_setAll rfl ?_))
                  case hI => exact by first | exact ⟨k + 1, x54.1, rfl, rfl, by omega, h54.2.mono (by omega) (by omega), hfd54, by omega⟩ | exact ⟨k + 1, s, rfl, rfl, by omega, hok.mono (by omega) (by omega), hfd, by omega⟩
                  case hm => exact by show l.length - (k + 1 : Int).toNat < l.length - (k : Int).toNat; omega
                  case hH => exact (Subs.st inferInstance)
                ·
                  have p50 := h50
                  try simp only [decide_eq_true_eq, decide_eq_false_iff_not, Bool.not_eq_true', Bool.not_eq_false', Option.isNone_iff_eq_none, ne_eq, Decidable.not_not, Int.not_lt, Int.not_le] at p50
                  refine T_skip ?_
                  refine X_block ?_
                  refine X_then ?_
                  refine T_region ?_
                  first
                    | refine TL_q (Qt_add rfl rfl (by omega) (by omega)) rfl ?_
                    | refine TL_q (Qt_addw rfl rfl) rfl ?_
                  refine TL_q (Qt_move (.int .i64 _) rfl) rfl ?_
                  refine TL_nil ?_
                  apply X_loop
                  case ha => exact (by repeat (first | with_reducible exact agree_refl | refine agree_upd rfl ?_ | refine agree_mix rfl ?_ | refine agree_setAll rfl ?_))
                  case hI => exact by first | exact ⟨k + 1, x54.1, rfl, rfl, by omega, h54.2.mono (by omega) (by omega), hfd54, by omega⟩ | exact ⟨k + 1, s, rfl, rfl, by omega, hok.mono (by omega) (by omega), hfd, by omega⟩
                  case hm => exact by show l.length - (k + 1 : Int).toNat < l.length - (k : Int).toNat; omega
                  case hH => exact (Subs.st inferInstance)
              ·
                have p46 := h46
                try simp only [decide_eq_true_eq, decide_eq_false_iff_not, Bool.not_eq_true', Bool.not_eq_false', Option.isNone_iff_eq_none, ne_eq, Decidable.not_not, Int.not_lt, Int.not_le] at p46
                refine TL_pass rfl rfl h46 rfl ?_
                refine TL_pass rfl rfl h46 rfl ?_
                refine TL_pass rfl rfl h46 rfl ?_
                refine TL_q (Qt_pick_f (.bool _) rfl h46 rfl) rfl ?_
                refine TL_nil ?_
                refine X_then ?_
                refine T_cond_false rfl rfl ?_
                refine T_skip ?_
                refine X_block ?_
                refine X_then ?_
                refine T_region ?_
                first
                  | refine TL_q (Qt_add rfl rfl (by omega) (by omega)) rfl ?_
                  | refine TL_q (Qt_addw rfl rfl) rfl ?_
                refine TL_q (Qt_move (.int .i64 _) rfl) rfl ?_
                refine TL_nil ?_
                apply X_loop
                case ha => exact (by repeat (first | with_reducible exact agree_refl | refine agree_upd rfl ?_ | refine agree_mix rfl ?_ | refine agree_setAll rfl ?_))
                case hI => exact by first | exact ⟨k + 1, x54.1, rfl, rfl, by omega, h54.2.mono (by omega) (by omega), hfd54, by omega⟩ | exact ⟨k + 1, s, rfl, rfl, by omega, hok.mono (by omega) (by omega), hfd, by omega⟩
                case hm => exact by show l.length - (k + 1 : Int).toNat < l.length - (k : Int).toNat; omega
                case hH => exact (Subs.st inferInstance)
            ·
              have p41 := h41
              try simp only [decide_eq_true_eq, decide_eq_false_iff_not, Bool.not_eq_true', Bool.not_eq_false', Option.isNone_iff_eq_none, ne_eq, Decidable.not_not, Int.not_lt, Int.not_le] at p41
              refine TL_pass rfl rfl h41 rfl ?_
              refine TL_pass rfl rfl h41 rfl ?_
              refine TL_pass rfl rfl h41 rfl ?_
              refine TL_q (Qt_pick_f (.bool _) rfl h41 rfl) rfl ?_
              refine TL_q (Qt_move (.bool _) rfl) rfl ?_
              refine TL_pass rfl rfl rfl rfl ?_
              refine TL_pass rfl rfl rfl rfl ?_
              refine TL_pass rfl rfl rfl rfl ?_
              refine TL_q (Qt_pick_f (.bool _) rfl rfl rfl) rfl ?_
              refine TL_nil ?_
              refine X_then ?_
              refine T_cond_false rfl rfl ?_
              refine T_skip ?_
              refine X_block ?_
              refine X_then ?_
              refine T_region ?_
              first
                | refine TL_q (Qt_add rfl rfl (by omega) (by omega)) rfl ?_
                | refine TL_q (Qt_addw rfl rfl) rfl ?_
              refine TL_q (Qt_move (.int .i64 _) rfl) rfl ?_
              refine TL_nil ?_
              apply X_loop
              case ha => exact (by repeat (first | with_reducible exact agree_refl | refine agree_upd rfl ?_ | refine agree_mix rfl ?_ | refine agree_setAll rfl ?_))
              case hI => exact by first | exact ⟨k + 1, x54.1, rfl, rfl, by omega, h54.2.mono (by omega) (by omega), hfd54, by omega⟩ | exact ⟨k + 1, s, rfl, rfl, by omega, hok.mono (by omega) (by omega), hfd, by omega⟩
              case hm => exact by show l.length - (k + 1 : Int).toNat < l.length - (k : Int).toNat; omega
              case hH => exact (Subs.st inferInstance)
          ·
            have p36 := h36
            try simp only [decide_eq_true_eq, decide_eq_false_iff_not, Bool.not_eq_true', Bool.not_eq_false', Option.isNone_iff_eq_none, ne_eq, Decidable.not_not, Int.not_lt, Int.not_le] at p36
            refine TL_pass rfl rfl h36 rfl ?_
            refine TL_pass rfl rfl h36 rfl ?_
            refine TL_pass rfl rfl h36 rfl ?_
            refine TL_q (Qt_pick_f (.bool _) rfl h36 rfl) rfl ?_
            refine TL_q (Qt_move (.bool _) rfl) rfl ?_
            refine TL_pass rfl rfl rfl rfl ?_
            refine TL_pass rfl rfl rfl rfl ?_
            refine TL_pass rfl rfl rfl rfl ?_
            refine TL_q (Qt_pick_f (.bool _) rfl rfl rfl) rfl ?_
            refine TL_q (Qt_move (.bool _) rfl) rfl ?_
            refine TL_pass rfl rfl rfl rfl ?_
            refine TL_pass rfl rfl rfl rfl ?_
            refine TL_pass rfl rfl rfl rfl ?_
            refine TL_q (Qt_pick_f (.bool _) rfl rfl rfl) rfl ?_
            refine TL_nil ?_
            refine X_then ?_
            refine T_cond_false rfl rfl ?_
            refine T_skip ?_
            refine X_block ?_
            refine X_then ?_
            refine T_region ?_
            first
              | refine TL_q (Qt_add rfl rfl (by omega) (by omega)) rfl ?_
              | refine TL_q (Qt_addw rfl rfl) rfl ?_
            refine TL_q (Qt_move (.int .i64 _) rfl) rfl ?_
            refine TL_nil ?_
            apply X_loop
            case ha => exact (by repeat (first | with_reducible exact agree_refl | refine agree_upd rfl ?_ | refine agree_mix rfl ?_ | refine agree_setAll rfl ?_))
            case hI => exact by first | exact ⟨k + 1, x54.1, rfl, rfl, by omega, h54.2.mono (by omega) (by omega), hfd54, by omega⟩ | exact ⟨k + 1, s, rfl, rfl, by omega, hok.mono (by omega) (by omega), hfd, by omega⟩
            case hm => exact by show l.length - (k + 1 : Int).toNat < l.length - (k : Int).toNat; omega
            case hH => exact (Subs.st inferInstance)
        ·
          have p31 := h31
          try simp only [decide_eq_true_eq, decide_eq_false_iff_not, Bool.not_eq_true', Bool.not_eq_false', Option.isNone_iff_eq_none, ne_eq, Decidable.not_not, Int.not_lt, Int.not_le] at p31
          refine T_exit ?_
          refine X_then_exit ?_
          refine X_loop_exit ?_
          refine X_block_exit ?_
          refine X_then ?_
          refine T_seq ?_
          refine T_region ?_
          refine TL_q (Qt_move (.pointer _) rfl) rfl ?_
          refine TL_e rfl (Ef_call (sync_c (p := x24.1) (s := s) hok (by omega) (by omega)) rfl (fun x59 => ?_))
          refine TL_pure (fun h59 => ?_)
          have hok59 := h59.ok hok
          obtain ⟨hs1, hs2, hs3⟩ := h59.alive hfd.1 hfd.2
          refine TL_nil ?_
          refine X_then ?_
          refine T_seq ?_
          refine T_region ?_
          refine TL_q (Qt_move (.pointer _) rfl) rfl ?_
          refine TL_e rfl (Ef_call (dread_c (p := x24.1) (s := x59) hok59 (by omega) (by omega) (nm := KP)) rfl (fun x62 => ?_))
          refine TL_q (Qt_move (.tuple _) rfl) rfl ?_
          refine TL_q (Qt_extract rfl) rfl ?_
          refine TL_q (Qt_extract rfl) rfl ?_
          refine TL_q (Qt_assign (.slice _ _ _) rfl) rfl ?_
          refine TL_q (Qt_assign (.int .i64 _) rfl) rfl ?_
          refine TL_nil ?_
          refine X_then ?_
          refine T_seq ?_
          refine T_seq ?_
          refine T_region ?_
          refine TL_q (Qt_move (.slice _ _ _) rfl) rfl ?_
          refine TL_q (Qt_len_slice rfl Try.underlying22) rfl ?_
          refine TL_q (Qt_move (.int .i64 _) rfl) rfl ?_
          refine TL_nil ?_
          refine X_then ?_
          refine T_block ?_
          refine T_loop [7, 13, 67, 68, 69, 70, 71, 72, 73, 74, 75, 76, 77, 78, 79, 80, 81, 82, 83, 84, 85, 86, 87, 88, 89, 90, 91, 92, 93, 94] [67, 7] (fun us H' => ∃ (j : Nat) (t : DS), us = [.int .i64 (j : Int), .pointer (some ⟨x24.1, 0, none⟩)] ∧ DS.H x24.1 t (row (.slice x62.a (oldE x59.e2 KP).l.length x62.c) 5 1 (bytesV (oldE x59.e2 KP).l) :: blk b5 (.cells (PlanV.mk (kp : Int) torn cut).cells 25 (0, 0)) :: H) = H' ∧ j ≤ m.length ∧ (t.Ok (10000 + 83 * j) (10000000 + 83000 * j)) ∧ (t.e1 = x59.e2) ∧ (∀ a ∈ t.pend, a.name ≠ KP ∧ a.to ≠ KP) ∧ (t.pend.length ≤ j)) (fun us => match us with | .int _ i :: _ => m.length - i.toNat | _ => 0) ⟨0, x59, rfl, rfl, by omega, hok59.mono (by omega) (by omega), hs1.trans hs2.symm, (by rw [hs3]; intro a h; cases h), by rw [hs3]; exact Nat.le_refl _⟩ (Subs.st inferInstance) ?_
          rintro τ1 _ _  ⟨j, t, rfl, rfl, hj0, hokt, hs, hpn, hplt⟩ _
          refine T_seq ?_
          refine T_region ?_
          refine TL_q (Qt_lss rfl rfl) rfl ?_
          refine TL_nil ?_
          refine X_then ?_
          refine T_seq ?_
          refine T_cond rfl (fun h68 => ?_) (fun h68 => ?_)
          ·
            have p68 := h68
            try simp only [decide_eq_true_eq, decide_eq_false_iff_not, Bool.not_eq_true', Bool.not_eq_false', Option.isNone_iff_eq_none, ne_eq, Decidable.not_not, Int.not_lt, Int.not_le] at p68
            have hk : j < m.length := by omega
            refine T_skip ?_
            refine X_then ?_
            refine T_seq ?_
            refine T_block ?_
            refine T_seq ?_
            refine T_region ?_
            refine TL_q (Qt_indexN rfl rfl (by omega) (by omega)) rfl ?_
            refine TL_q (Qt_val (Qt_loadRN 8 m[j].list rfl (flat_slice _ 8 RActV.list_len m j hk) (RActV.list_len _) (by decide)) (show Value.agg m[j].list.toArray = Value.agg m[j].cells from rfl)) rfl ?_
            refine TL_e rfl (Ef_allocN (fun b13 => ?_))
            refine TL_n (Ef_storeN rfl rfl (?_))
            refine TL_nil ?_
            refine X_then ?_
            refine T_seq ?_
            refine T_region ?_
            refine TL_q (Qt_loadN rfl rfl) rfl ?_
            refine TL_e rfl (Ef_call (right10_c (a := m[j])) rfl (fun x72 => ?_))
            refine TL_q (Qt_move (.bool _) rfl) rfl ?_
            refine TL_split 73 rfl (fun h73 => ?_) (fun h73 => ?_)
            ·
              have p73 := h73
              try simp only [decide_eq_true_eq, decide_eq_false_iff_not, Bool.not_eq_true', Bool.not_eq_false', Option.isNone_iff_eq_none, ne_eq, Decidable.not_not, Int.not_lt, Int.not_le] at p73
              refine TL_take rfl rfl h73 ?_
              refine TL_q (Qt_fieldAddr 0 rfl rfl) rfl ?_
              refine TL_take rfl rfl h73 ?_
              refine TL_q (Qt_load1 rfl) rfl ?_
              refine TL_take rfl rfl h73 ?_
              refine TL_q (Qt_lss rfl rfl) rfl ?_
              refine TL_q (Qt_pick_t (.bool _) rfl h73 rfl) rfl ?_
              refine TL_q (Qt_move (.bool _) rfl) rfl ?_
              refine TL_split 78 rfl (fun h78 => ?_) (fun h78 => ?_)
              ·
                have p78 := h78
                try simp only [decide_eq_true_eq, decide_eq_false_iff_not, Bool.not_eq_true', Bool.not_eq_false', Option.isNone_iff_eq_none, ne_eq, Decidable.not_not, Int.not_lt, Int.not_le] at p78
                refine TL_take rfl rfl h78 ?_
                refine TL_q (Qt_fieldAddr 1 rfl rfl) rfl ?_
                refine TL_take rfl rfl h78 ?_
                refine TL_q (Qt_load1 rfl) rfl ?_
                refine TL_take rfl rfl h78 ?_
                refine TL_q (Qt_str_neq rfl rfl) rfl ?_
                refine TL_q (Qt_pick_t (.bool _) rfl h78 rfl) rfl ?_
                refine TL_q (Qt_move (.bool _) rfl) rfl ?_
                refine TL_split 83 rfl (fun h83 => ?_) (fun h83 => ?_)
                ·
                  have p83 := h83
                  try simp only [decide_eq_true_eq, decide_eq_false_iff_not, Bool.not_eq_true', Bool.not_eq_false', Option.isNone_iff_eq_none, ne_eq, Decidable.not_not, Int.not_lt, Int.not_le] at p83
                  refine TL_take rfl rfl h83 ?_
                  refine TL_q (Qt_fieldAddr 2 rfl rfl) rfl ?_
                  refine TL_take rfl rfl h83 ?_
                  refine TL_q (Qt_load1 rfl) rfl ?_
                  refine TL_take rfl rfl h83 ?_
                  refine TL_q (Qt_str_neq rfl rfl) rfl ?_
                  refine TL_q (Qt_pick_t (.bool _) rfl h83 rfl) rfl ?_
                  refine TL_nil ?_
                  refine X_then ?_
                  refine T_cond rfl (fun h87 => ?_) (fun h87 => ?_)
                  ·
                    have p87 := h87
                    try simp only [decide_eq_true_eq, decide_eq_false_iff_not, Bool.not_eq_true', Bool.not_eq_false', Option.isNone_iff_eq_none, ne_eq, Decidable.not_not, Int.not_lt, Int.not_le] at p87
                    refine T_region ?_
                    refine TL_q (Qt_move (.pointer _) rfl) rfl ?_
                    refine TL_q (Qt_loadN rfl rfl) rfl ?_
                    have := rm m[j] (List.getElem_mem hk)
                    refine TL_conv (fun w hw => (Subs.st inferInstance w hw : St w0 (DS.H x24.1 t (blk b13 (.cells m[j].cells 34 (0, 0)) :: row (.slice x62.a (oldE x59.e2 KP).l.length x62.c) 5 1 (bytesV (oldE x59.e2 KP).l) :: blk b5 (.cells (PlanV.mk (kp : Int) torn cut).cells 25 (0, 0)) :: H)) w)) ?_
                    refine TL_e rfl (Ef_call (do10R_c (p := x24.1) (s := t) hokt (by omega) (by omega) (by omega) (ra := m[j]) (by have := hsm.2 m[j] (List.getElem_mem hk); omega) (km _ (List.getElem_mem hk)) (by omega) (of_decide_eq_true h73).1) rfl (fun x91 => ?_))
                    refine TL_pure (fun h91 => ?_)
                    have hpl91 := h91.1.2.1
                    have hpk91 := h91.1.pendK (key := KP) (by omega) (by simpa [KP] using h83) (by simpa [KP] using h87) (by decide) hpn
                    have hse91 := (h91.1.2.2 (by omega)).1.trans hs
                    refine TL_q (Qt_move (.tuple _) rfl) rfl ?_
                    refine TL_q (Qt_extract rfl) rfl ?_
                    refine TL_q (Qt_extract rfl) rfl ?_
                    refine TL_q (Qt_assign (.pointer _) rfl) rfl ?_
                    refine TL_nil ?_
                    refine X_block ?_
                    refine X_then ?_
                    refine T_region ?_
                    first
                      | refine TL_q (Qt_add rfl rfl (by omega) (by omega)) rfl ?_
                      | refine TL_q (Qt_addw rfl rfl) rfl ?_
                    refine TL_q (Qt_move (.int .i64 _) rfl) rfl ?_
                    refine TL_nil ?_
                    apply X_loop
                    case ha => exact (by repeat (first | with_reducible exact agree_refl | refine agree_upd rfl ?_ | refine agree_mix rfl ?_ | refine agree_setAll rfl ?_))
                    case hI => exact by first | exact ⟨j + 1, x91.1, rfl, rfl, by omega, h91.2.mono (by omega) (by omega), hse91, hpk91, by omega⟩ | exact ⟨j + 1, t, rfl, rfl, by omega, hokt.mono (by omega) (by omega), hs, hpn, by omega⟩
                    case hm => exact by show m.length - (j + 1 : Int).toNat < m.length - (j : Int).toNat; omega
                    case hH => exact (Subs.st inferInstance)
                  ·
                    have p87 := h87
                    try simp only [decide_eq_true_eq, decide_eq_false_iff_not, Bool.not_eq_true', Bool.not_eq_false', Option.isNone_iff_eq_none, ne_eq, Decidable.not_not, Int.not_lt, Int.not_le] at p87
                    refine T_skip ?_
                    refine X_block ?_
                    refine X_then ?_
                    refine T_region ?_
                    first
                      | refine TL_q (Qt_add rfl rfl (by omega) (by omega)) rfl ?_
                      | refine TL_q (Qt_addw rfl rfl) rfl ?_
                    refine TL_q (Qt_move (.int .i64 _) rfl) rfl ?_
                    refine TL_nil ?_
                    apply X_loop
                    case ha => exact (by repeat (first | with_reducible exact agree_refl | refine agree_upd rfl ?_ | refine agree_mix rfl ?_ | refine agree_setAll rfl ?_))
                    case hI => exact by first | exact ⟨j + 1, x91.1, rfl, rfl, by omega, h91.2.mono (by omega) (by omega), hse91, hpk91, by omega⟩ | exact ⟨j + 1, t, rfl, rfl, by omega, hokt.mono (by omega) (by omega), hs, hpn, by omega⟩
                    case hm => exact by show m.length - (j + 1 : Int).toNat < m.length - (j : Int).toNat; omega
                    case hH => exact (Subs.st inferInstance)
                ·
                  have p83 := h83
                  try simp only [decide_eq_true_eq, decide_eq_false_iff_not, Bool.not_eq_true', Bool.not_eq_false', Option.isNone_iff_eq_none, ne_eq, Decidable.not_not, Int.not_lt, Int.not_le] at p83
                  refine TL_pass rfl rfl h83 rfl ?_
                  refine TL_pass rfl rfl h83 rfl ?_
                  refine TL_pass rfl rfl h83 rfl ?_
                  refine TL_q (Qt_pick_f (.bool _) rfl h83 rfl) rfl ?_
                  refine TL_nil ?_
                  refine X_then ?_
                  refine T_cond_false rfl rfl ?_
                  refine T_skip ?_
                  refine X_block ?_
                  refine X_then ?_
                  refine T_region ?_
                  first
                    | refine TL_q (Qt_add rfl rfl (by omega) (by omega)) rfl ?_
                    | refine TL_q (Qt_addw rfl rfl) rfl ?_
                  refine TL_q (Qt_move (.int .i64 _) rfl) rfl ?_
                  refine TL_nil ?_
                  apply X_loop
                  case ha => exact (by repeat (first | with_reducible exact agree_refl | refine agree_upd rfl ?_ | refine agree_mix rfl ?_ | refine agree_setAll rfl ?_))
                  case hI => exact by first | exact ⟨j + 1, x91.1, rfl, rfl, by omega, h91.2.mono (by omega) (by omega), hse91, hpk91, by omega⟩ | exact ⟨j + 1, t, rfl, rfl, by omega, hokt.mono (by omega) (by omega), hs, hpn, by omega⟩
                  case hm => exact by show m.length - (j + 1 : Int).toNat < m.length - (j : Int).toNat; omega
                  case hH => exact (Subs.st inferInstance)
              ·
                have p78 := h78
                try simp only [decide_eq_true_eq, decide_eq_false_iff_not, Bool.not_eq_true', Bool.not_eq_false', Option.isNone_iff_eq_none, ne_eq, Decidable.not_not, Int.not_lt, Int.not_le] at p78
                refine TL_pass rfl rfl h78 rfl ?_
                refine TL_pass rfl rfl h78 rfl ?_
                refine TL_pass rfl rfl h78 rfl ?_
                refine TL_q (Qt_pick_f (.bool _) rfl h78 rfl) rfl ?_
                refine TL_q (Qt_move (.bool _) rfl) rfl ?_
                refine TL_pass rfl rfl rfl rfl ?_
                refine TL_pass rfl rfl rfl rfl ?_
                refine TL_pass rfl rfl rfl rfl ?_
                refine TL_q (Qt_pick_f (.bool _) rfl rfl rfl) rfl ?_
                refine TL_nil ?_
                refine X_then ?_
                refine T_cond_false rfl rfl ?_
                refine T_skip ?_
                refine X_block ?_
                refine X_then ?_
                refine T_region ?_
                first
                  | refine TL_q (Qt_add rfl rfl (by omega) (by omega)) rfl ?_
                  | refine TL_q (Qt_addw rfl rfl) rfl ?_
                refine TL_q (Qt_move (.int .i64 _) rfl) rfl ?_
                refine TL_nil ?_
                apply X_loop
                case ha => exact (by repeat (first | with_reducible exact agree_refl | refine agree_upd rfl ?_ | refine agree_mix rfl ?_ | refine agree_setAll rfl ?_))
                case hI => exact by first | exact ⟨j + 1, x91.1, rfl, rfl, by omega, h91.2.mono (by omega) (by omega), hse91, hpk91, by omega⟩ | exact ⟨j + 1, t, rfl, rfl, by omega, hokt.mono (by omega) (by omega), hs, hpn, by omega⟩
                case hm => exact by show m.length - (j + 1 : Int).toNat < m.length - (j : Int).toNat; omega
                case hH => exact (Subs.st inferInstance)
            ·
              have p73 := h73
              try simp only [decide_eq_true_eq, decide_eq_false_iff_not, Bool.not_eq_true', Bool.not_eq_false', Option.isNone_iff_eq_none, ne_eq, Decidable.not_not, Int.not_lt, Int.not_le] at p73
              refine TL_pass rfl rfl h73 rfl ?_
              refine TL_pass rfl rfl h73 rfl ?_
              refine TL_pass rfl rfl h73 rfl ?_
              refine TL_q (Qt_pick_f (.bool _) rfl h73 rfl) rfl ?_
              refine TL_q (Qt_move (.bool _) rfl) rfl ?_
              refine TL_pass rfl rfl rfl rfl ?_
              refine TL_pass rfl rfl rfl rfl ?_
              refine TL_pass rfl rfl rfl rfl ?_
              refine TL_q (Qt_pick_f (.bool _) rfl rfl rfl) rfl ?_
              refine TL_q (Qt_move (.bool _) rfl) rfl ?_
              refine TL_pass rfl rfl rfl rfl ?_
              refine TL_pass rfl rfl rfl rfl ?_
              refine TL_pass rfl rfl rfl rfl ?_
              refine TL_q (Qt_pick_f (.bool _) rfl rfl rfl) rfl ?_
              refine TL_nil ?_
              refine X_then ?_
              refine T_cond_false rfl rfl ?_
              refine T_skip ?_
              refine X_block ?_
              refine X_then ?_
              refine T_region ?_
              first
                | refine TL_q (Qt_add rfl rfl (by omega) (by omega)) rfl ?_
                | refine TL_q (Qt_addw rfl rfl) rfl ?_
              refine TL_q (Qt_move (.int .i64 _) rfl) rfl ?_
              refine TL_nil ?_
              apply X_loop
              case ha => exact (by repeat (first | with_reducible exact agree_refl | refine agree_upd rfl ?_ | refine agree_mix rfl ?_ | refine agree_setAll rfl ?_))
              case hI => exact by first | exact ⟨j + 1, x91.1, rfl, rfl, by omega, h91.2.mono (by omega) (by omega), hse91, hpk91, by omega⟩ | exact ⟨j + 1, t, rfl, rfl, by omega, hokt.mono (by omega) (by omega), hs, hpn, by omega⟩
              case hm => exact by show m.length - (j + 1 : Int).toNat < m.length - (j : Int).toNat; omega
              case hH => exact (Subs.st inferInstance)
          ·
            have p68 := h68
            try simp only [decide_eq_true_eq, decide_eq_false_iff_not, Bool.not_eq_true', Bool.not_eq_false', Option.isNone_iff_eq_none, ne_eq, Decidable.not_not, Int.not_lt, Int.not_le] at p68
            refine T_exit ?_
            refine X_then_exit ?_
            refine X_loop_exit ?_
            refine X_block_exit ?_
            refine X_then ?_
            refine T_seq ?_
            refine T_region ?_
            refine TL_q (Qt_move (.pointer _) rfl) rfl ?_
            refine TL_q (Qt_loadN rfl rfl) rfl ?_
            refine TL_conv (fun w hw => (Subs.st inferInstance w hw : St w0 (DS.H x24.1 t (row (.slice x62.a (oldE x59.e2 KP).l.length x62.c) 5 1 (bytesV (oldE x59.e2 KP).l) :: blk b5 (.cells (PlanV.mk (kp : Int) torn cut).cells 25 (0, 0)) :: H)) w)) ?_
            refine TL_e rfl (Ef_call (crash_c (p := x24.1) (s := t) hokt (by omega) (by omega) (kp := kp) (torn := torn) (cut := cut) hkp) rfl (fun x97 => ?_))
            refine TL_pure (fun h97 => ?_)
            have hok97 := h97.ok hokt
            have hg := (h97.keepE hpn).trans (congrArg (getE · KP) hs)
            have hh : hasE x97.e2 KP = hasE x59.e2 KP := by simp only [hasE]; rw [hg]
            have ho : oldE x97.e2 KP = oldE x59.e2 KP := by simp only [oldE]; rw [hg]
            refine TL_nil ?_
            refine X_then ?_
            refine T_seq ?_
            refine T_region ?_
            refine TL_q (Qt_move (.pointer _) rfl) rfl ?_
            refine TL_e rfl (Ef_call (dread_c (p := x24.1) (s := x97) hok97 (by omega) (by omega) (nm := KP)) rfl (fun x100 => ?_))
            rw [hh, ho]
            refine TL_q (Qt_move (.tuple _) rfl) rfl ?_
            refine TL_q (Qt_extract rfl) rfl ?_
            refine TL_q (Qt_extract rfl) rfl ?_
            refine TL_q (Qt_assign (.slice _ _ _) rfl) rfl ?_
            refine TL_q (Qt_assign (.int .i64 _) rfl) rfl ?_
            refine TL_nil ?_
            refine X_then ?_
            refine T_seq ?_
            refine T_region ?_
            refine TL_q (Qt_move (.int .i64 _) rfl) rfl ?_
            refine TL_q (Qt_move (.int .i64 _) rfl) rfl ?_
            refine TL_q (Qt_eql rfl rfl) rfl ?_
            refine TL_q (Qt_move (.bool _) rfl) rfl ?_
            refine TL_split 106 rfl (fun h106 => ?_) (fun h106 => ?_)
            ·
              have p106 := h106
              try simp only [decide_eq_true_eq, decide_eq_false_iff_not, Bool.not_eq_true', Bool.not_eq_false', Option.isNone_iff_eq_none, ne_eq, Decidable.not_not, Int.not_lt, Int.not_le] at p106
              refine TL_take rfl rfl h106 ?_
              refine TL_q (Qt_move (.slice _ _ _) rfl) rfl ?_
              refine TL_take rfl rfl h106 ?_
              refine TL_q (Qt_move (.slice _ _ _) rfl) rfl ?_
              refine TL_take rfl rfl h106 ?_
              refine TL_e rfl (Ef_call (same_c (by have := hok97.len _ (oldE_mem hok97.mem2 hok97.zero KP); rw [ho] at this; omega)) rfl (fun x109 => ?_))
              refine TL_q (Qt_pick_t (.bool _) rfl h106 rfl) rfl ?_
              refine TL_q (Qt_assign (.bool _) rfl) rfl ?_
              refine TL_nil ?_
              refine X_then ?_
              refine T_ret ?_
              exact X_ret () [.bool true] Try.results3 ⟨by refine congrArg Value.bool ?_; simp, trivial⟩ rfl (Subs.st inferInstance)
            ·
              have p106 := h106
              try simp only [decide_eq_true_eq, decide_eq_false_iff_not, Bool.not_eq_true', Bool.not_eq_false', Option.isNone_iff_eq_none, ne_eq, Decidable.not_not, Int.not_lt, Int.not_le] at p106
              exact absurd h106 (by simp)
end Go.Proofs.Ytededghplnoajaa
