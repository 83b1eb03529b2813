/- Walks: the law DiskAll. -/
import Derived.Test.YtededghplnoajaaDr
namespace Go.Proofs.Ytededghplnoajaa
open Go.RowKit Go.Sx
set_option maxRecDepth 100000
set_option linter.unusedSimpArgs false
set_option linter.unusedVariables false
/-- What is pending leads from what was synced to what is there. -/
def AInv (s : DS) : Prop := cont s.e2 = s.pend.foldl doF (cont s.e1)
theorem DoR.con {s s' : DS} {a : ActV} {e : Int} (h : DoR s a s' e) (hg : GoodM s.e2 s.c2) (hi : AInv s) : AInv s' ∧ s'.e1 = s.e1 := by
  rcases h with ⟨-, -, rfl⟩ | ⟨-, -, x, pa, pc, fp, hx, rfl⟩
  · exact ⟨hi, rfl⟩
  · refine ⟨?_, rfl⟩
    show cont (doE s.e2 a x s.c2) = (s.pend ++ [a]).foldl doF (cont s.e1)
    rw [List.foldl_append, cont_doE hg hx]
    show doF (cont s.e2) a = doF (s.pend.foldl doF (cont s.e1)) a
    rw [show cont s.e2 = _ from hi]
theorem AppR.con {k : Int} {less : Nat} {s s' : DS} {nm : ByteArray} {b : List UInt8} {e : Int} (h : AppR k less s nm b s' e) (hg : GoodM s.e2 s.c2) (hi : AInv s) : AInv s' ∧ s'.e1 = s.e1 := by
  rcases h with ⟨-, -, rfl⟩ | ⟨-, -, -, rfl⟩ | ⟨-, -, -, -, rfl⟩ | ⟨-, -, -, cl, fp, hcl, hd⟩
  · exact ⟨hi, rfl⟩
  · exact ⟨hi, rfl⟩
  · exact ⟨hi, rfl⟩
  · exact hd.con hg hi
theorem MvR.con {s s' : DS} {a : ActV} {ok : Bool} {e : Int} (h : MvR a ok s s' e) (hg : GoodM s.e2 s.c2) (hi : AInv s) : AInv s' ∧ s'.e1 = s.e1 := by
  rcases h with ⟨-, -, rfl⟩ | ⟨-, -, -, rfl⟩ | ⟨-, -, -, -, rfl⟩ | ⟨-, -, -, hd⟩
  · exact ⟨hi, rfl⟩
  · exact ⟨hi, rfl⟩
  · exact ⟨hi, rfl⟩
  · exact hd.con hg hi
/-- Behind an act that neither syncs nor crashes. -/
theorem StepR.plain {N M : Nat} {ra : RActV} {s s' : DS} {e : Int} (hs : StepR N M ra s s' e) (h4 : ra.kind < 4) (hg : GoodM s.e2 s.c2) (hi : AInv s) (hf : s.fuse = -1) (hd : s.down = false) :
    (AInv s' ∧ s'.e1 = s.e1) ∧ (s'.fuse = -1 ∧ s'.down = false) ∧ ∀ x ∈ s.bs, x ∈ s'.bs := by
  rcases hs with ⟨-, hs⟩ | ⟨-, hs⟩ | ⟨-, hs⟩ | ⟨-, hs⟩ | ⟨h, -⟩ | ⟨h, -⟩ | ⟨h, -⟩ | ⟨h, -⟩
  · exact ⟨hs.con hg hi, (hs.doA (kind := 0) (to := ⟨#[]⟩)).1 hf hd, hs.sub⟩
  · exact ⟨hs.con hg hi, (hs.doA (kind := 0) (to := ⟨#[]⟩)).1 hf hd, hs.sub⟩
  · exact ⟨hs.con hg hi, (hs.doA (kind := 0) (.inl rfl)).1 hf hd, hs.sub⟩
  · exact ⟨hs.con hg hi, (hs.doA (kind := 0) (.inl rfl)).1 hf hd, hs.sub⟩
  all_goals (exfalso; omega)
attribute [local irreducible] namesE roomOf

set_option maxHeartbeats 1000000 in
theorem diskAll_c {w0 : World} {H : List SA} {a a2 : Option Addr} {l m : List RActV} {c c2 : Nat} [hr : RdC w0 H (.slice a l.length c) 8 (l.flatMap RActV.list)] [hr2 : RdC w0 H (.slice a2 m.length c2) 8 (m.flatMap RActV.list)] (rl : ∀ x ∈ l, RdB w0 H (.slice x.b.a x.b.l.length x.b.c) x.b.l) (rm : ∀ x ∈ m, RdB w0 H (.slice x.b.a x.b.l.length x.b.c) x.b.l) (kl : ∀ x ∈ l, 0 ≤ x.p.keep ∧ x.p.keep < 18446744073709551616) (km : ∀ x ∈ m, 0 ≤ x.p.keep ∧ x.p.keep < 18446744073709551616) (nl : ∀ x ∈ l, x.n ≤ 9223372036854775807) (nm : ∀ x ∈ m, x.n ≤ 9223372036854775807) :
    CT Try.prog w0 (H) 4 [.slice a l.length c, .slice a2 m.length c2] (α := Unit) (fun _ => .bool true) (fun _ => H) := by
  refine CT_intro Try.func4 rfl Try.ntmps4 rfl ?_
  refine T_seq ?_
  refine T_region ?_
  refine TL_q (Qt_assign (.bool _) rfl) rfl ?_
  refine TL_nil ?_
  refine X_then ?_
  refine T_seq ?_
  refine T_seq ?_
  refine T_region ?_
  refine TL_e rfl (Ef_call (wakes10_c) rfl (fun x13 => ?_))
  refine TL_q (Qt_not rfl) rfl ?_
  refine TL_nil ?_
  refine X_then ?_
  refine T_cond rfl (fun h14 => ?_) (fun h14 => ?_)
  ·
    have p14 := h14
    try simp only [decide_eq_true_eq, decide_eq_false_iff_not, Bool.not_eq_true', Bool.not_eq_false', Option.isNone_iff_eq_none, ne_eq, Decidable.not_not, Int.not_lt, Int.not_le] at p14
    cases h14
  ·
    have p14 := h14
    try simp only [decide_eq_true_eq, decide_eq_false_iff_not, Bool.not_eq_true', Bool.not_eq_false', Option.isNone_iff_eq_none, ne_eq, Decidable.not_not, Int.not_lt, Int.not_le] at p14
    refine T_skip ?_
    refine X_then ?_
    refine T_seq ?_
    refine T_seq ?_
    refine T_region ?_
    refine TL_q (Qt_move (.slice _ _ _) rfl) rfl ?_
    refine TL_e rfl (Ef_call (long10_c (l := l)) rfl (fun x16 => ?_))
    refine TL_pure (fun hs16 => ?_)
    refine TL_q (Qt_move (.bool _) rfl) rfl ?_
    refine TL_split 17 rfl (fun h17 => ?_) (fun h17 => ?_)
    ·
      have p17 := h17
      try simp only [decide_eq_true_eq, decide_eq_false_iff_not, Bool.not_eq_true', Bool.not_eq_false', Option.isNone_iff_eq_none, ne_eq, Decidable.not_not, Int.not_lt, Int.not_le] at p17
      refine TL_pass rfl rfl h17 rfl ?_
      refine TL_pass rfl rfl h17 rfl ?_
      refine TL_q (Qt_pick_t (.bool _) rfl h17 rfl) rfl ?_
      refine TL_nil ?_
      refine X_then ?_
      refine T_cond_true rfl rfl ?_
      refine T_seq ?_
      refine T_region ?_
      refine TL_q (Qt_assign (.bool _) rfl) rfl ?_
      refine TL_nil ?_
      refine X_then ?_
      refine T_ret ?_
      refine X_then_ret ?_
      exact X_ret () [_] Try.results4 ⟨rfl, trivial⟩ rfl (Subs.st inferInstance)
    ·
      have p17 := h17
      try simp only [decide_eq_true_eq, decide_eq_false_iff_not, Bool.not_eq_true', Bool.not_eq_false', Option.isNone_iff_eq_none, ne_eq, Decidable.not_not, Int.not_lt, Int.not_le] at p17
      have hsl : ShortA l := hs16 h17
      have hl80 := hsl.1
      refine TL_take rfl rfl h17 ?_
      refine TL_q (Qt_move (.slice _ _ _) rfl) rfl ?_
      refine TL_take rfl rfl h17 ?_
      refine TL_e rfl (Ef_call (long10_c (l := m)) rfl (fun x19 => ?_))
      refine TL_pure (fun hs19 => ?_)
      refine TL_q (Qt_pick_f (.bool _) rfl h17 rfl) rfl ?_
      refine TL_nil ?_
      refine X_then ?_
      refine T_cond rfl (fun h20 => ?_) (fun h20 => ?_)
      ·
        have p20 := h20
        try simp only [decide_eq_true_eq, decide_eq_false_iff_not, Bool.not_eq_true', Bool.not_eq_false', Option.isNone_iff_eq_none, ne_eq, Decidable.not_not, Int.not_lt, Int.not_le] at p20
        refine T_seq ?_
        refine T_region ?_
        refine TL_q (Qt_assign (.bool _) rfl) rfl ?_
        refine TL_nil ?_
        refine X_then ?_
        refine T_ret ?_
        refine X_then_ret ?_
        exact X_ret () [_] Try.results4 ⟨rfl, trivial⟩ rfl (Subs.st inferInstance)
      ·
        have p20 := h20
        try simp only [decide_eq_true_eq, decide_eq_false_iff_not, Bool.not_eq_true', Bool.not_eq_false', Option.isNone_iff_eq_none, ne_eq, Decidable.not_not, Int.not_lt, Int.not_le] at p20
        have hsm : ShortA m := hs19 h20
        have hm80 := hsm.1
        refine T_skip ?_
        refine X_then ?_
        refine T_seq ?_
        refine T_region ?_
        refine TL_e rfl (Ef_call (dnew_c (n := 65536)) rfl (fun x21 => ?_))
        refine TL_q (Qt_assign (.pointer _) rfl) rfl ?_
        refine TL_nil ?_
        refine X_then ?_
        refine T_seq ?_
        refine T_seq ?_
        refine T_region ?_
        refine TL_q (Qt_move (.slice _ _ _) rfl) rfl ?_
        refine TL_q (Qt_len_slice rfl Try.underlying22) rfl ?_
        refine TL_q (Qt_move (.int .i64 _) rfl) rfl ?_
        refine TL_nil ?_
        refine X_then ?_
        refine T_block ?_
        refine T_loop [7, 24, 25, 26, 27, 28, 29, 30, 31, 32, 33, 34, 35, 36, 37, 38] [24] (fun us H' => ∃ (k : Nat) (s : DS), us = [.int .i64 (k : Int)] ∧ DS.H x21.1 s H = H' ∧ k ≤ l.length ∧ (s.Ok (11 + 83 * k) (2000 + 83000 * k)) ∧ (RmI s 65536) ∧ (s.pend.length ≤ k) ∧ (AInv s) ∧ (s.fuse = -1 ∧ s.down = false)) (fun us => match us with | .int _ i :: _ => l.length - i.toNat | _ => 0) ⟨0, newS x21.2.1 x21.2.2 65536, rfl, rfl, by omega, (newS_ok _ _ _).mono (by omega) (by omega), newS_rm _ _ (by decide) (by decide), Nat.le_refl _, rfl, ⟨rfl, rfl⟩⟩ (Subs.st inferInstance) ?_
        rintro τ0 _ _  ⟨k, s, rfl, rfl, hk0, hok, hrm, hpl, hai, hal⟩ _
        refine T_seq ?_
        refine T_region ?_
        refine TL_q (Qt_lss rfl rfl) rfl ?_
        refine TL_nil ?_
        refine X_then ?_
        refine T_seq ?_
        refine T_cond rfl (fun h25 => ?_) (fun h25 => ?_)
        ·
          have p25 := h25
          try simp only [decide_eq_true_eq, decide_eq_false_iff_not, Bool.not_eq_true', Bool.not_eq_false', Option.isNone_iff_eq_none, ne_eq, Decidable.not_not, Int.not_lt, Int.not_le] at p25
          have hk : k < l.length := by omega
          refine T_skip ?_
          refine X_then ?_
          refine T_seq ?_
          refine T_block ?_
          refine T_seq ?_
          refine T_region ?_
          refine TL_q (Qt_indexN rfl rfl (by omega) (by omega)) rfl ?_
          refine TL_q (Qt_val (Qt_loadRN 8 l[k].list rfl (flat_slice _ 8 RActV.list_len l k hk) (RActV.list_len _) (by decide)) (show Value.agg l[k].list.toArray = Value.agg l[k].cells from rfl)) rfl ?_
          refine TL_e rfl (Ef_allocN (fun b7 => ?_))
          refine TL_n (Ef_storeN rfl rfl (?_))
          refine TL_nil ?_
          refine X_then ?_
          refine T_seq ?_
          refine T_region ?_
          refine TL_q (Qt_loadN rfl rfl) rfl ?_
          refine TL_e rfl (Ef_call (right10_c (a := l[k])) rfl (fun x29 => ?_))
          refine TL_q (Qt_move (.bool _) rfl) rfl ?_
          refine TL_split 30 rfl (fun h30 => ?_) (fun h30 => ?_)
          ·
            have p30 := h30
            try simp only [decide_eq_true_eq, decide_eq_false_iff_not, Bool.not_eq_true', Bool.not_eq_false', Option.isNone_iff_eq_none, ne_eq, Decidable.not_not, Int.not_lt, Int.not_le] at p30
            refine TL_take rfl rfl h30 ?_
            refine TL_q (Qt_fieldAddr 0 rfl rfl) rfl ?_
            refine TL_take rfl rfl h30 ?_
            refine TL_q (Qt_load1 rfl) rfl ?_
            refine TL_take rfl rfl h30 ?_
            refine TL_q (Qt_lss rfl rfl) rfl ?_
            refine TL_q (Qt_pick_t (.bool _) rfl h30 rfl) rfl ?_
            refine TL_nil ?_
            refine X_then ?_
            refine T_cond rfl (fun h34 => ?_) (fun h34 => ?_)
            ·
              have p34 := h34
              try simp only [decide_eq_true_eq, decide_eq_false_iff_not, Bool.not_eq_true', Bool.not_eq_false', Option.isNone_iff_eq_none, ne_eq, Decidable.not_not, Int.not_lt, Int.not_le] at p34
              have hri : rightA l[k].kind = true := h30
              have hk4 : l[k].kind < 4 := by omega
              refine T_region ?_
              refine TL_q (Qt_move (.pointer _) rfl) rfl ?_
              refine TL_q (Qt_loadN rfl rfl) rfl ?_
              have := rl l[k] (List.getElem_mem hk)
              obtain ⟨kp, hkp⟩ := Int.eq_ofNat_of_zero_le (kl l[k] (List.getElem_mem hk)).1
              have hkl := (kl l[k] (List.getElem_mem hk)).2
              refine TL_conv (fun w hw => (Subs.st inferInstance w hw : St w0 (DS.H x21.1 s (blk b7 (.cells l[k].cells 34 (0, 0)) :: H)) w)) ?_
              refine TL_e rfl (Ef_call (do11_c (p := x21.1) (s := s) hok (by omega) (by omega) (by omega) (ra := l[k]) (by have := hsl.2 l[k] (List.getElem_mem hk); omega) (of_decide_eq_true hri) hkp (by omega)) rfl (fun x37 => ?_))
              refine TL_pure (fun h37 => ?_)
              obtain ⟨h37, hp37⟩ := h37
              replace hp37 := hp37 (by omega)
              rw [hp37]
              have hok37 := (h37.ok hok (by omega) (by have := hsl.2 l[k] (List.getElem_mem hk); omega) (nl _ (List.getElem_mem hk))).mono (N' := 11 + 83 * (k + 1)) (M' := 2000 + 83000 * (k + 1)) (by omega) (by omega)
              have hrm37 := hrm.step h37 (by omega)
              have hpl37 := h37.pend
              obtain ⟨⟨hai37, he37⟩, hal37, hsb37⟩ := h37.plain (by omega) hok.good2 hai hal.1 hal.2
              refine TL_nil ?_
              refine X_block ?_
              refine X_then ?_
              refine T_region ?_
              first
                | refine TL_q (Qt_add rfl rfl (by omega) (by omega)) rfl ?_
                | refine TL_q (Qt_addw rfl rfl) rfl ?_
              refine TL_q (Qt_move (.int .i64 _) rfl) rfl ?_
              refine TL_nil ?_
              apply X_loop
              case ha => exact (by repeat (first | with_reducible exact agree_refl | refine agree_upd rfl ?_ | refine agree_mix rfl ?_ | refine agree_setAll rfl ?_))
              case hI => exact by first | exact ⟨k + 1, x37.2.1, rfl, rfl, by omega, hok37, hrm37, by omega, hai37, hal37⟩ | exact ⟨k + 1, s, rfl, rfl, by omega, hok.mono (by omega) (by omega), hrm, by omega, hai, hal⟩
              case hm => exact by show l.length - (k + 1 : Int).toNat < l.length - (k : Int).toNat; omega
              case hH => exact (Subs.st inferInstance)
            ·
              have p34 := h34
              try simp only [decide_eq_true_eq, decide_eq_false_iff_not, Bool.not_eq_true', Bool.not_eq_false', Option.isNone_iff_eq_none, ne_eq, Decidable.not_not, Int.not_lt, Int.not_le] at p34
              refine T_skip ?_
              refine X_block ?_
              refine X_then ?_
              refine T_region ?_
              first
                | refine TL_q (Qt_add rfl rfl (by omega) (by omega)) rfl ?_
                | refine TL_q (Qt_addw rfl rfl) rfl ?_
              refine TL_q (Qt_move (.int .i64 _) rfl) rfl ?_
              refine TL_nil ?_
              apply X_loop
              case ha => exact (by repeat (first | with_reducible exact agree_refl | refine agree_upd rfl ?_ | refine agree_mix rfl ?_ | refine agree_setAll rfl ?_))
              case hI => exact by first | exact ⟨k + 1, x37.2.1, rfl, rfl, by omega, hok37, hrm37, by omega, hai37, hal37⟩ | exact ⟨k + 1, s, rfl, rfl, by omega, hok.mono (by omega) (by omega), hrm, by omega, hai, hal⟩
              case hm => exact by show l.length - (k + 1 : Int).toNat < l.length - (k : Int).toNat; omega
              case hH => exact (Subs.st inferInstance)
          ·
            have p30 := h30
            try simp only [decide_eq_true_eq, decide_eq_false_iff_not, Bool.not_eq_true', Bool.not_eq_false', Option.isNone_iff_eq_none, ne_eq, Decidable.not_not, Int.not_lt, Int.not_le] at p30
            refine TL_pass rfl rfl h30 rfl ?_
            refine TL_pass rfl rfl h30 rfl ?_
            refine TL_pass rfl rfl h30 rfl ?_
            refine TL_q (Qt_pick_f (.bool _) rfl h30 rfl) rfl ?_
            refine TL_nil ?_
            refine X_then ?_
            refine T_cond_false rfl rfl ?_
            refine T_skip ?_
            refine X_block ?_
            refine X_then ?_
            refine T_region ?_
            first
              | refine TL_q (Qt_add rfl rfl (by omega) (by omega)) rfl ?_
              | refine TL_q (Qt_addw rfl rfl) rfl ?_
            refine TL_q (Qt_move (.int .i64 _) rfl) rfl ?_
            refine TL_nil ?_
            apply X_loop
            case ha => exact (by repeat (first | with_reducible exact agree_refl | refine agree_upd rfl ?_ | refine agree_mix rfl ?_ | refine agree_setAll rfl ?_))
            case hI => exact by first | exact ⟨k + 1, x37.2.1, rfl, rfl, by omega, hok37, hrm37, by omega, hai37, hal37⟩ | exact ⟨k + 1, s, rfl, rfl, by omega, hok.mono (by omega) (by omega), hrm, by omega, hai, hal⟩
            case hm => exact by show l.length - (k + 1 : Int).toNat < l.length - (k : Int).toNat; omega
            case hH => exact (Subs.st inferInstance)
        ·
          have p25 := h25
          try simp only [decide_eq_true_eq, decide_eq_false_iff_not, Bool.not_eq_true', Bool.not_eq_false', Option.isNone_iff_eq_none, ne_eq, Decidable.not_not, Int.not_lt, Int.not_le] at p25
          refine T_exit ?_
          refine X_then_exit ?_
          refine X_loop_exit ?_
          refine X_block_exit ?_
          refine X_then ?_
          refine T_seq ?_
          refine T_region ?_
          refine TL_q (Qt_move (.pointer _) rfl) rfl ?_
          refine TL_e rfl (Ef_call (sync_c (p := x21.1) (s := s) hok (by omega) (by omega)) rfl (fun x40 => ?_))
          refine TL_pure (fun h40 => ?_)
          have hok40 := h40.ok hok
          obtain ⟨hq1, hq2, hq3⟩ := h40.alive hal.1 hal.2
          have hal40 := (h40.doA (kind := 4) (nm := ⟨#[]⟩) (to := ⟨#[]⟩) (by decide)).1 hal.1 hal.2
          have hrm40 : RmI x40 65536 := RmI.step (N := 0) (M := 0) (ra := { RActV.zero with kind := 4 }) (e := 0) hrm (.inr (.inr (.inr (.inr (.inl ⟨rfl, rfl, h40⟩))))) (by decide)
          have hai40 : AInv x40 := by unfold AInv; rw [hq1, hq2, hq3]; rfl
          refine TL_nil ?_
          refine X_then ?_
          refine T_seq ?_
          refine T_region ?_
          refine TL_q (Qt_move (.pointer _) rfl) rfl ?_
          refine TL_e rfl (Ef_call (dcopy_c (p := x21.1) (s := x40) hok40 (by omega) (by omega)) rfl (fun x42 => ?_))
          refine TL_q (Qt_assign (.pointer _) rfl) rfl ?_
          refine TL_nil ?_
          refine X_then ?_
          refine T_seq ?_
          refine T_seq ?_
          refine T_region ?_
          refine TL_q (Qt_move (.slice _ _ _) rfl) rfl ?_
          refine TL_q (Qt_len_slice rfl Try.underlying22) rfl ?_
          refine TL_q (Qt_move (.int .i64 _) rfl) rfl ?_
          refine TL_nil ?_
          refine X_then ?_
          refine T_block ?_
          refine T_loop [10, 45, 46, 47, 48, 49, 50, 51, 52, 53, 54, 55, 56, 57, 58, 59] [45] (fun us H' => ∃ (j : Nat) (t : DS), us = [.int .i64 (j : Int)] ∧ DS.H x21.1 t (dblk x42.1 (cpyS x40 x42.2.1 x42.2.2.1 x42.2.2.2.a x42.2.2.2.c) :: blk ((cpyS x40 x42.2.1 x42.2.2.1 x42.2.2.2.a x42.2.2.2.c)).r1 (mapO encS BS.val ((cpyS x40 x42.2.1 x42.2.2.1 x42.2.2.2.a x42.2.2.2.c)).e1 ((cpyS x40 x42.2.1 x42.2.2.1 x42.2.2.2.a x42.2.2.2.c)).c1) :: blk ((cpyS x40 x42.2.1 x42.2.2.1 x42.2.2.2.a x42.2.2.2.c)).r2 (mapO encS BS.val ((cpyS x40 x42.2.1 x42.2.2.1 x42.2.2.2.a x42.2.2.2.c)).e2 ((cpyS x40 x42.2.1 x42.2.2.1 x42.2.2.2.a x42.2.2.2.c)).c2) :: prow (cpyS x40 x42.2.1 x42.2.2.1 x42.2.2.2.a x42.2.2.2.c) :: H) = H' ∧ j ≤ m.length ∧ (t.Ok (10000 + 83 * j) (10000000 + 83000 * j)) ∧ (RmI t 65536) ∧ (t.pend.length ≤ j) ∧ (AInv t) ∧ (t.fuse = -1 ∧ t.down = false) ∧ (t.e1 = x40.e1) ∧ (∀ x ∈ x40.bs, x ∈ t.bs)) (fun us => match us with | .int _ i :: _ => m.length - i.toNat | _ => 0) ⟨0, x40, rfl, rfl, by omega, hok40.mono (by omega) (by omega), hrm40, (by rw [hq3]; exact Nat.le_refl _), hai40, hal40, rfl, fun _ h => h⟩ (Subs.st inferInstance) ?_
          rintro τ1 _ _  ⟨j, t, rfl, rfl, hj0, hokt, hrmt, hplt, hait, halt, hte, hsbt⟩ _
          refine T_seq ?_
          refine T_region ?_
          refine TL_q (Qt_lss rfl rfl) rfl ?_
          refine TL_nil ?_
          refine X_then ?_
          refine T_seq ?_
          refine T_cond rfl (fun h46 => ?_) (fun h46 => ?_)
          ·
            have p46 := h46
            try simp only [decide_eq_true_eq, decide_eq_false_iff_not, Bool.not_eq_true', Bool.not_eq_false', Option.isNone_iff_eq_none, ne_eq, Decidable.not_not, Int.not_lt, Int.not_le] at p46
            have hk : j < m.length := by omega
            refine T_skip ?_
            refine X_then ?_
            refine T_seq ?_
            refine T_block ?_
            refine T_seq ?_
            refine T_region ?_
            refine TL_q (Qt_indexN rfl rfl (by omega) (by omega)) rfl ?_
            refine TL_q (Qt_val (Qt_loadRN 8 m[j].list rfl (flat_slice _ 8 RActV.list_len m j hk) (RActV.list_len _) (by decide)) (show Value.agg m[j].list.toArray = Value.agg m[j].cells from rfl)) rfl ?_
            refine TL_e rfl (Ef_allocN (fun b10 => ?_))
            refine TL_n (Ef_storeN rfl rfl (?_))
            refine TL_nil ?_
            refine X_then ?_
            refine T_seq ?_
            refine T_region ?_
            refine TL_q (Qt_loadN rfl rfl) rfl ?_
            refine TL_e rfl (Ef_call (right10_c (a := m[j])) rfl (fun x50 => ?_))
            refine TL_q (Qt_move (.bool _) rfl) rfl ?_
            refine TL_split 51 rfl (fun h51 => ?_) (fun h51 => ?_)
            ·
              have p51 := h51
              try simp only [decide_eq_true_eq, decide_eq_false_iff_not, Bool.not_eq_true', Bool.not_eq_false', Option.isNone_iff_eq_none, ne_eq, Decidable.not_not, Int.not_lt, Int.not_le] at p51
              refine TL_take rfl rfl h51 ?_
              refine TL_q (Qt_fieldAddr 0 rfl rfl) rfl ?_
              refine TL_take rfl rfl h51 ?_
              refine TL_q (Qt_load1 rfl) rfl ?_
              refine TL_take rfl rfl h51 ?_
              refine TL_q (Qt_lss rfl rfl) rfl ?_
              refine TL_q (Qt_pick_t (.bool _) rfl h51 rfl) rfl ?_
              refine TL_nil ?_
              refine X_then ?_
              refine T_cond rfl (fun h55 => ?_) (fun h55 => ?_)
              ·
                have p55 := h55
                try simp only [decide_eq_true_eq, decide_eq_false_iff_not, Bool.not_eq_true', Bool.not_eq_false', Option.isNone_iff_eq_none, ne_eq, Decidable.not_not, Int.not_lt, Int.not_le] at p55
                have hri : rightA m[j].kind = true := h51
                have hk4 : m[j].kind < 4 := by omega
                refine T_region ?_
                refine TL_q (Qt_move (.pointer _) rfl) rfl ?_
                refine TL_q (Qt_loadN rfl rfl) rfl ?_
                have := rm m[j] (List.getElem_mem hk)
                obtain ⟨kp, hkp⟩ := Int.eq_ofNat_of_zero_le (km m[j] (List.getElem_mem hk)).1
                have hkl := (km m[j] (List.getElem_mem hk)).2
                refine TL_conv (fun w hw => (Subs.st inferInstance w hw : St w0 (DS.H x21.1 t (blk b10 (.cells m[j].cells 34 (0, 0)) :: dblk x42.1 (cpyS x40 x42.2.1 x42.2.2.1 x42.2.2.2.a x42.2.2.2.c) :: blk ((cpyS x40 x42.2.1 x42.2.2.1 x42.2.2.2.a x42.2.2.2.c)).r1 (mapO encS BS.val ((cpyS x40 x42.2.1 x42.2.2.1 x42.2.2.2.a x42.2.2.2.c)).e1 ((cpyS x40 x42.2.1 x42.2.2.1 x42.2.2.2.a x42.2.2.2.c)).c1) :: blk ((cpyS x40 x42.2.1 x42.2.2.1 x42.2.2.2.a x42.2.2.2.c)).r2 (mapO encS BS.val ((cpyS x40 x42.2.1 x42.2.2.1 x42.2.2.2.a x42.2.2.2.c)).e2 ((cpyS x40 x42.2.1 x42.2.2.1 x42.2.2.2.a x42.2.2.2.c)).c2) :: prow (cpyS x40 x42.2.1 x42.2.2.1 x42.2.2.2.a x42.2.2.2.c) :: H)) w)) ?_
                refine TL_e rfl (Ef_call (do11_c (p := x21.1) (s := t) hokt (by omega) (by omega) (by omega) (ra := m[j]) (by have := hsm.2 m[j] (List.getElem_mem hk); omega) (of_decide_eq_true hri) hkp (by omega)) rfl (fun x58 => ?_))
                refine TL_pure (fun h58 => ?_)
                obtain ⟨h58, hp58⟩ := h58
                replace hp58 := hp58 (by omega)
                rw [hp58]
                have hok58 := (h58.ok hokt (by omega) (by have := hsm.2 m[j] (List.getElem_mem hk); omega) (nm _ (List.getElem_mem hk))).mono (N' := 10000 + 83 * (j + 1)) (M' := 10000000 + 83000 * (j + 1)) (by omega) (by omega)
                have hrm58 := hrmt.step h58 (by omega)
                have hpl58 := h58.pend
                obtain ⟨⟨hai58, he58⟩, hal58, hsb58⟩ := h58.plain (by omega) hokt.good2 hait halt.1 halt.2
                refine TL_nil ?_
                refine X_block ?_
                refine X_then ?_
                refine T_region ?_
                first
                  | refine TL_q (Qt_add rfl rfl (by omega) (by omega)) rfl ?_
                  | refine TL_q (Qt_addw rfl rfl) rfl ?_
                refine TL_q (Qt_move (.int .i64 _) rfl) rfl ?_
                refine TL_nil ?_
                apply X_loop
                case ha => exact (by repeat (first | with_reducible exact agree_refl | refine agree_upd rfl ?_ | refine agree_mix rfl ?_ | refine agree_setAll rfl ?_))
                case hI => exact by first | exact ⟨j + 1, x58.2.1, rfl, rfl, by omega, hok58, hrm58, by omega, hai58, hal58, he58.trans hte, fun x hx => hsb58 x (hsbt x hx)⟩ | exact ⟨j + 1, t, rfl, rfl, by omega, hokt.mono (by omega) (by omega), hrmt, by omega, hait, halt, hte, hsbt⟩
                case hm => exact by show m.length - (j + 1 : Int).toNat < m.length - (j : Int).toNat; omega
                case hH => exact (Subs.st inferInstance)
              ·
                have p55 := h55
                try simp only [decide_eq_true_eq, decide_eq_false_iff_not, Bool.not_eq_true', Bool.not_eq_false', Option.isNone_iff_eq_none, ne_eq, Decidable.not_not, Int.not_lt, Int.not_le] at p55
                refine T_skip ?_
                refine X_block ?_
                refine X_then ?_
                refine T_region ?_
                first
                  | refine TL_q (Qt_add rfl rfl (by omega) (by omega)) rfl ?_
                  | refine TL_q (Qt_addw rfl rfl) rfl ?_
                refine TL_q (Qt_move (.int .i64 _) rfl) rfl ?_
                refine TL_nil ?_
                apply X_loop
                case ha => exact (by repeat (first | with_reducible exact agree_refl | refine agree_upd rfl ?_ | refine agree_mix rfl ?_ | refine agree_setAll rfl ?_))
                case hI => exact by first | exact ⟨j + 1, x58.2.1, rfl, rfl, by omega, hok58, hrm58, by omega, hai58, hal58, he58.trans hte, fun x hx => hsb58 x (hsbt x hx)⟩ | exact ⟨j + 1, t, rfl, rfl, by omega, hokt.mono (by omega) (by omega), hrmt, by omega, hait, halt, hte, hsbt⟩
                case hm => exact by show m.length - (j + 1 : Int).toNat < m.length - (j : Int).toNat; omega
                case hH => exact (Subs.st inferInstance)
            ·
              have p51 := h51
              try simp only [decide_eq_true_eq, decide_eq_false_iff_not, Bool.not_eq_true', Bool.not_eq_false', Option.isNone_iff_eq_none, ne_eq, Decidable.not_not, Int.not_lt, Int.not_le] at p51
              refine TL_pass rfl rfl h51 rfl ?_
              refine TL_pass rfl rfl h51 rfl ?_
              refine TL_pass rfl rfl h51 rfl ?_
              refine TL_q (Qt_pick_f (.bool _) rfl h51 rfl) rfl ?_
              refine TL_nil ?_
              refine X_then ?_
              refine T_cond_false rfl rfl ?_
              refine T_skip ?_
              refine X_block ?_
              refine X_then ?_
              refine T_region ?_
              first
                | refine TL_q (Qt_add rfl rfl (by omega) (by omega)) rfl ?_
                | refine TL_q (Qt_addw rfl rfl) rfl ?_
              refine TL_q (Qt_move (.int .i64 _) rfl) rfl ?_
              refine TL_nil ?_
              apply X_loop
              case ha => exact (by repeat (first | with_reducible exact agree_refl | refine agree_upd rfl ?_ | refine agree_mix rfl ?_ | refine agree_setAll rfl ?_))
              case hI => exact by first | exact ⟨j + 1, x58.2.1, rfl, rfl, by omega, hok58, hrm58, by omega, hai58, hal58, he58.trans hte, fun x hx => hsb58 x (hsbt x hx)⟩ | exact ⟨j + 1, t, rfl, rfl, by omega, hokt.mono (by omega) (by omega), hrmt, by omega, hait, halt, hte, hsbt⟩
              case hm => exact by show m.length - (j + 1 : Int).toNat < m.length - (j : Int).toNat; omega
              case hH => exact (Subs.st inferInstance)
          ·
            have p46 := h46
            try simp only [decide_eq_true_eq, decide_eq_false_iff_not, Bool.not_eq_true', Bool.not_eq_false', Option.isNone_iff_eq_none, ne_eq, Decidable.not_not, Int.not_lt, Int.not_le] at p46
            refine T_exit ?_
            refine X_then_exit ?_
            refine X_loop_exit ?_
            refine X_block_exit ?_
            refine X_then ?_
            refine T_seq ?_
            refine T_region ?_
            refine TL_q (Qt_move (.pointer _) rfl) rfl ?_
            have hoT : t.Ok 20000 20000000 := hokt.mono (by omega) (by omega)
            refine TL_e rfl (Ef_call (dcopy_c (p := x21.1) (s := t) hoT (by omega) (by omega)) rfl (fun x61 => ?_))
            refine TL_q (Qt_move (.pointer _) rfl) rfl ?_
            refine TL_conv (fun w hw => (Subs.st inferInstance w hw : St w0 (DS.H x21.1 t (dblk x61.1 (cpyS t x61.2.1 x61.2.2.1 x61.2.2.2.a x61.2.2.2.c) :: blk ((cpyS t x61.2.1 x61.2.2.1 x61.2.2.2.a x61.2.2.2.c)).r1 (mapO encS BS.val ((cpyS t x61.2.1 x61.2.2.1 x61.2.2.2.a x61.2.2.2.c)).e1 ((cpyS t x61.2.1 x61.2.2.1 x61.2.2.2.a x61.2.2.2.c)).c1) :: blk ((cpyS t x61.2.1 x61.2.2.1 x61.2.2.2.a x61.2.2.2.c)).r2 (mapO encS BS.val ((cpyS t x61.2.1 x61.2.2.1 x61.2.2.2.a x61.2.2.2.c)).e2 ((cpyS t x61.2.1 x61.2.2.1 x61.2.2.2.a x61.2.2.2.c)).c2) :: prow (cpyS t x61.2.1 x61.2.2.1 x61.2.2.2.a x61.2.2.2.c) :: dblk x42.1 (cpyS x40 x42.2.1 x42.2.2.1 x42.2.2.2.a x42.2.2.2.c) :: blk ((cpyS x40 x42.2.1 x42.2.2.1 x42.2.2.2.a x42.2.2.2.c)).r1 (mapO encS BS.val ((cpyS x40 x42.2.1 x42.2.2.1 x42.2.2.2.a x42.2.2.2.c)).e1 ((cpyS x40 x42.2.1 x42.2.2.1 x42.2.2.2.a x42.2.2.2.c)).c1) :: blk ((cpyS x40 x42.2.1 x42.2.2.1 x42.2.2.2.a x42.2.2.2.c)).r2 (mapO encS BS.val ((cpyS x40 x42.2.1 x42.2.2.1 x42.2.2.2.a x42.2.2.2.c)).e2 ((cpyS x40 x42.2.1 x42.2.2.1 x42.2.2.2.a x42.2.2.2.c)).c2) :: prow (cpyS x40 x42.2.1 x42.2.2.1 x42.2.2.2.a x42.2.2.2.c) :: H)) w)) ?_
            refine TL_e rfl (Ef_call (dcopy_c (p := x21.1) (s := t) hoT (by omega) (by omega)) rfl (fun x63 => ?_))
            refine TL_q (Qt_assign (.pointer _) rfl) rfl ?_
            refine TL_q (Qt_assign (.pointer _) rfl) rfl ?_
            refine TL_nil ?_
            refine X_then ?_
            refine T_seq ?_
            refine T_region ?_
            refine TL_q (Qt_move (.pointer _) rfl) rfl ?_
            refine TL_q (Qt_build [(0, (.int .u64 _)), (1, (.int .i64 _))] rfl (by kernel_rfl)) rfl ?_
            have hok61 := cpyS_ok hoT x61.2.1 x61.2.2.1 x61.2.2.2.a x61.2.2.2.c
            refine TL_conv (fun w hw => (Subs.st inferInstance w hw : St w0 (DS.H x61.1 (cpyS t x61.2.1 x61.2.2.1 x61.2.2.2.a x61.2.2.2.c) (dblk x21.1 t :: blk (t).r1 (mapO encS BS.val (t).e1 (t).c1) :: blk (t).r2 (mapO encS BS.val (t).e2 (t).c2) :: prow t :: dblk x63.1 (cpyS t x63.2.1 x63.2.2.1 x63.2.2.2.a x63.2.2.2.c) :: blk ((cpyS t x63.2.1 x63.2.2.1 x63.2.2.2.a x63.2.2.2.c)).r1 (mapO encS BS.val ((cpyS t x63.2.1 x63.2.2.1 x63.2.2.2.a x63.2.2.2.c)).e1 ((cpyS t x63.2.1 x63.2.2.1 x63.2.2.2.a x63.2.2.2.c)).c1) :: blk ((cpyS t x63.2.1 x63.2.2.1 x63.2.2.2.a x63.2.2.2.c)).r2 (mapO encS BS.val ((cpyS t x63.2.1 x63.2.2.1 x63.2.2.2.a x63.2.2.2.c)).e2 ((cpyS t x63.2.1 x63.2.2.1 x63.2.2.2.a x63.2.2.2.c)).c2) :: prow (cpyS t x63.2.1 x63.2.2.1 x63.2.2.2.a x63.2.2.2.c) :: dblk x42.1 (cpyS x40 x42.2.1 x42.2.2.1 x42.2.2.2.a x42.2.2.2.c) :: blk ((cpyS x40 x42.2.1 x42.2.2.1 x42.2.2.2.a x42.2.2.2.c)).r1 (mapO encS BS.val ((cpyS x40 x42.2.1 x42.2.2.1 x42.2.2.2.a x42.2.2.2.c)).e1 ((cpyS x40 x42.2.1 x42.2.2.1 x42.2.2.2.a x42.2.2.2.c)).c1) :: blk ((cpyS x40 x42.2.1 x42.2.2.1 x42.2.2.2.a x42.2.2.2.c)).r2 (mapO encS BS.val ((cpyS x40 x42.2.1 x42.2.2.1 x42.2.2.2.a x42.2.2.2.c)).e2 ((cpyS x40 x42.2.1 x42.2.2.1 x42.2.2.2.a x42.2.2.2.c)).c2) :: prow (cpyS x40 x42.2.1 x42.2.2.1 x42.2.2.2.a x42.2.2.2.c) :: H)) w)) ?_
            refine TL_e rfl (Ef_call (crash2_c (p := x61.1) (s := (cpyS t x61.2.1 x61.2.2.1 x61.2.2.2.a x61.2.2.2.c)) hok61 (by omega) (by omega) (kp := 18446744073709551615) (torn := -1) (cut := 0) (by omega)) rfl (fun x66 => ?_))
            refine TL_pure (fun h66 => ?_)
            have hok66 : x66.Ok 20200 20200000 := (h66.toR.ok hok61).mono (by show 20000 + t.pend.length ≤ _; omega) (by show 20000000 + 1000 * t.pend.length ≤ _; omega)
            have hc66 : cont x66.e2 = cont t.e2 := by rw [h66.con, crF_all]; exact (show cont t.e2 = _ from hait).symm
            refine TL_nil ?_
            refine X_then ?_
            refine T_seq ?_
            refine T_region ?_
            refine TL_q (Qt_move (.pointer _) rfl) rfl ?_
            refine TL_q (Qt_build [(1, (.int .i64 _))] rfl (by kernel_rfl)) rfl ?_
            have hok63 : (poolS (cpyS t x63.2.1 x63.2.2.1 x63.2.2.2.a x63.2.2.2.c) x66).Ok 20000 20200000 := (cpyS_ok hoT x63.2.1 x63.2.2.1 x63.2.2.2.a x63.2.2.2.c).pool hok66 h66.sub
            refine TL_conv (fun w hw => (Subs.st inferInstance w hw : St w0 (DS.H x63.1 (poolS (cpyS t x63.2.1 x63.2.2.1 x63.2.2.2.a x63.2.2.2.c) x66) (dblk x61.1 x66 :: blk (x66).r1 (mapO encS BS.val (x66).e1 (x66).c1) :: blk (x66).r2 (mapO encS BS.val (x66).e2 (x66).c2) :: prow x66 :: dblk x21.1 t :: blk (t).r1 (mapO encS BS.val (t).e1 (t).c1) :: blk (t).r2 (mapO encS BS.val (t).e2 (t).c2) :: prow t :: dblk x42.1 (cpyS x40 x42.2.1 x42.2.2.1 x42.2.2.2.a x42.2.2.2.c) :: blk ((cpyS x40 x42.2.1 x42.2.2.1 x42.2.2.2.a x42.2.2.2.c)).r1 (mapO encS BS.val ((cpyS x40 x42.2.1 x42.2.2.1 x42.2.2.2.a x42.2.2.2.c)).e1 ((cpyS x40 x42.2.1 x42.2.2.1 x42.2.2.2.a x42.2.2.2.c)).c1) :: blk ((cpyS x40 x42.2.1 x42.2.2.1 x42.2.2.2.a x42.2.2.2.c)).r2 (mapO encS BS.val ((cpyS x40 x42.2.1 x42.2.2.1 x42.2.2.2.a x42.2.2.2.c)).e2 ((cpyS x40 x42.2.1 x42.2.2.1 x42.2.2.2.a x42.2.2.2.c)).c2) :: prow (cpyS x40 x42.2.1 x42.2.2.1 x42.2.2.2.a x42.2.2.2.c) :: H)) w)) ?_
            refine TL_e rfl (Ef_call (crash2_c (p := x63.1) (s := (poolS (cpyS t x63.2.1 x63.2.2.1 x63.2.2.2.a x63.2.2.2.c) x66)) hok63 (by omega) (by omega) (kp := 0) (torn := -1) (cut := 0) (by omega)) rfl (fun x69 => ?_))
            refine TL_pure (fun h69 => ?_)
            have hok69 : x69.Ok 20400 20400000 := (h69.toR.ok hok63).mono (by show 20000 + t.pend.length ≤ _; omega) (by show 20200000 + 1000 * t.pend.length ≤ _; omega)
            have hc69 : cont x69.e2 = cont t.e1 := by rw [h69.con, crF_zero]
            refine TL_nil ?_
            refine X_then ?_
            refine T_seq ?_
            refine T_region ?_
            refine TL_q (Qt_move (.pointer _) rfl) rfl ?_
            have hokD : (poolS t x69).Ok 20000 20400000 := hoT.pool hok69 (fun x hx => h69.sub x (h66.sub x hx))
            refine TL_conv (fun w hw => (Subs.st inferInstance w hw : St w0 (DS.H x21.1 (poolS t x69) (dblk x61.1 x66 :: blk (x66).r1 (mapO encS BS.val (x66).e1 (x66).c1) :: blk (x66).r2 (mapO encS BS.val (x66).e2 (x66).c2) :: prow x66 :: dblk x63.1 x69 :: blk (x69).r1 (mapO encS BS.val (x69).e1 (x69).c1) :: blk (x69).r2 (mapO encS BS.val (x69).e2 (x69).c2) :: prow x69 :: dblk x42.1 (cpyS x40 x42.2.1 x42.2.2.1 x42.2.2.2.a x42.2.2.2.c) :: blk ((cpyS x40 x42.2.1 x42.2.2.1 x42.2.2.2.a x42.2.2.2.c)).r1 (mapO encS BS.val ((cpyS x40 x42.2.1 x42.2.2.1 x42.2.2.2.a x42.2.2.2.c)).e1 ((cpyS x40 x42.2.1 x42.2.2.1 x42.2.2.2.a x42.2.2.2.c)).c1) :: blk ((cpyS x40 x42.2.1 x42.2.2.1 x42.2.2.2.a x42.2.2.2.c)).r2 (mapO encS BS.val ((cpyS x40 x42.2.1 x42.2.2.1 x42.2.2.2.a x42.2.2.2.c)).e2 ((cpyS x40 x42.2.1 x42.2.2.1 x42.2.2.2.a x42.2.2.2.c)).c2) :: prow (cpyS x40 x42.2.1 x42.2.2.1 x42.2.2.2.a x42.2.2.2.c) :: H)) w)) ?_
            refine TL_e rfl (Ef_call (sync_c (p := x21.1) (s := (poolS t x69)) hokD (by omega) (by omega)) rfl (fun x71 => ?_))
            refine TL_pure (fun h71 => ?_)
            have hok71 := h71.ok hokD
            obtain ⟨hs1, hs2, hs3⟩ := h71.alive halt.1 halt.2
            replace hs2 : x71.e2 = t.e2 := hs2
            refine TL_nil ?_
            refine X_then ?_
            refine T_seq ?_
            refine T_region ?_
            refine TL_q (Qt_move (.pointer _) rfl) rfl ?_
            refine TL_q (Qt_move (.pointer _) rfl) rfl ?_
            have hokA : (poolS x66 x71).Ok 20200 20400000 := hok66.pool hok71 (fun x hx => h71.sub x (h69.sub x hx))
            have hk71 : KeyL x71.e2 := by rw [hs2]; exact hrmt.key
            have hkA : KeyL (poolS x66 x71).e2 := KeyL.of (es := x66.e2) hrmt.key hc66
            have hcA : cont (poolS x66 x71).e2 = cont x71.e2 := by rw [hs2]; exact hc66
            refine TL_conv (fun w hw => (Subs.st inferInstance w hw : St w0 (DS.H x61.1 (poolS x66 x71) (dblk x21.1 (poolS x71 (poolS x66 x71)) :: blk ((poolS x71 (poolS x66 x71))).r1 (mapO encS BS.val ((poolS x71 (poolS x66 x71))).e1 ((poolS x71 (poolS x66 x71))).c1) :: blk ((poolS x71 (poolS x66 x71))).r2 (mapO encS BS.val ((poolS x71 (poolS x66 x71))).e2 ((poolS x71 (poolS x66 x71))).c2) :: prow (poolS x71 (poolS x66 x71)) :: dblk x63.1 x69 :: blk (x69).r1 (mapO encS BS.val (x69).e1 (x69).c1) :: blk (x69).r2 (mapO encS BS.val (x69).e2 (x69).c2) :: prow x69 :: dblk x42.1 (cpyS x40 x42.2.1 x42.2.2.1 x42.2.2.2.a x42.2.2.2.c) :: blk ((cpyS x40 x42.2.1 x42.2.2.1 x42.2.2.2.a x42.2.2.2.c)).r1 (mapO encS BS.val ((cpyS x40 x42.2.1 x42.2.2.1 x42.2.2.2.a x42.2.2.2.c)).e1 ((cpyS x40 x42.2.1 x42.2.2.1 x42.2.2.2.a x42.2.2.2.c)).c1) :: blk ((cpyS x40 x42.2.1 x42.2.2.1 x42.2.2.2.a x42.2.2.2.c)).r2 (mapO encS BS.val ((cpyS x40 x42.2.1 x42.2.2.1 x42.2.2.2.a x42.2.2.2.c)).e2 ((cpyS x40 x42.2.1 x42.2.2.1 x42.2.2.2.a x42.2.2.2.c)).c2) :: prow (cpyS x40 x42.2.1 x42.2.2.1 x42.2.2.2.a x42.2.2.2.c) :: H)) w)) ?_
            refine TL_e rfl (Ef_call (alike_c (p := x61.1) (s := (poolS x66 x71)) hokA (by omega) (by omega) hkA (q := x21.1) (t := x71) (N2 := 20000) (M2 := 20400000) hok71 (by omega) (by omega) hk71 hcA) rfl (fun x74 => ?_))
            refine TL_q (Qt_move (.bool _) rfl) rfl ?_
            refine TL_split 75 rfl (fun h75 => ?_) (fun h75 => ?_)
            ·
              have p75 := h75
              try simp only [decide_eq_true_eq, decide_eq_false_iff_not, Bool.not_eq_true', Bool.not_eq_false', Option.isNone_iff_eq_none, ne_eq, Decidable.not_not, Int.not_lt, Int.not_le] at p75
              refine TL_take rfl rfl h75 ?_
              refine TL_q (Qt_move (.pointer _) rfl) rfl ?_
              refine TL_take rfl rfl h75 ?_
              refine TL_q (Qt_move (.pointer _) rfl) rfl ?_
              have hokB : (poolS x69 x71).Ok 20400 20400000 := hok69.pool hok71 (fun x hx => h71.sub x hx)
              have hcW : cont x69.e2 = cont x40.e2 := by rw [hc69, hte, hq1, hq2]
              have hkW : KeyL (cpyS x40 x42.2.1 x42.2.2.1 x42.2.2.2.a x42.2.2.2.c).e2 := by show KeyL x40.e2; rw [hq2]; exact hrm.key
              have hkB : KeyL (poolS x69 x71).e2 := KeyL.of (es := x69.e2) (fs := x40.e2) hkW hcW
              have hcB : cont (poolS x69 x71).e2 = cont (cpyS x40 x42.2.1 x42.2.2.1 x42.2.2.2.a x42.2.2.2.c).e2 := hcW
              have hokW : (poolS (cpyS x40 x42.2.1 x42.2.2.1 x42.2.2.2.a x42.2.2.2.c) (poolS x69 x71)).Ok 10000 20400000 := (cpyS_ok (hok40.mono (N' := 10000) (by omega) (Nat.le_refl _)) x42.2.1 x42.2.2.1 x42.2.2.2.a x42.2.2.2.c).pool hokB (fun x hx => h71.sub x (h69.sub x (h66.sub x (hsbt x hx))))
              refine TL_conv (fun w hw => (Subs.st inferInstance w hw : St w0 (DS.H x63.1 (poolS x69 x71) (dblk x42.1 (poolS (cpyS x40 x42.2.1 x42.2.2.1 x42.2.2.2.a x42.2.2.2.c) (poolS x69 x71)) :: blk ((poolS (cpyS x40 x42.2.1 x42.2.2.1 x42.2.2.2.a x42.2.2.2.c) (poolS x69 x71))).r1 (mapO encS BS.val ((poolS (cpyS x40 x42.2.1 x42.2.2.1 x42.2.2.2.a x42.2.2.2.c) (poolS x69 x71))).e1 ((poolS (cpyS x40 x42.2.1 x42.2.2.1 x42.2.2.2.a x42.2.2.2.c) (poolS x69 x71))).c1) :: blk ((poolS (cpyS x40 x42.2.1 x42.2.2.1 x42.2.2.2.a x42.2.2.2.c) (poolS x69 x71))).r2 (mapO encS BS.val ((poolS (cpyS x40 x42.2.1 x42.2.2.1 x42.2.2.2.a x42.2.2.2.c) (poolS x69 x71))).e2 ((poolS (cpyS x40 x42.2.1 x42.2.2.1 x42.2.2.2.a x42.2.2.2.c) (poolS x69 x71))).c2) :: prow (poolS (cpyS x40 x42.2.1 x42.2.2.1 x42.2.2.2.a x42.2.2.2.c) (poolS x69 x71)) :: H)) w)) ?_
              refine TL_take rfl rfl h75 ?_
              refine TL_e rfl (Ef_call (alike_c (p := x63.1) (s := (poolS x69 x71)) hokB (by omega) (by omega) hkB (q := x42.1) (t := (cpyS x40 x42.2.1 x42.2.2.1 x42.2.2.2.a x42.2.2.2.c)) (N2 := 10000) (M2 := 20400000) hokW (by omega) (by omega) hkW hcB) rfl (fun x78 => ?_))
              refine TL_q (Qt_pick_t (.bool _) rfl h75 rfl) rfl ?_
              refine TL_q (Qt_assign (.bool _) rfl) rfl ?_
              refine TL_nil ?_
              refine X_then ?_
              refine T_ret ?_
              exact X_ret () [_] Try.results4 ⟨rfl, trivial⟩ rfl (Subs.st inferInstance)
            ·
              have p75 := h75
              try simp only [decide_eq_true_eq, decide_eq_false_iff_not, Bool.not_eq_true', Bool.not_eq_false', Option.isNone_iff_eq_none, ne_eq, Decidable.not_not, Int.not_lt, Int.not_le] at p75
              cases h75
end Go.Proofs.Ytededghplnoajaa
