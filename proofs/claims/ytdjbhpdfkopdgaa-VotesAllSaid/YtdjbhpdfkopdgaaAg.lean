/- The law VotesAll: the votes that a book tells are those that the document says, and make it anew. -/
import Derived.Test.YtdjbhpdfkopdgaaAe
import Derived.Test.YtdjbhpdfkopdgaaAf
namespace Go.Proofs.Ytdjbhpdfkopdgaa
open Go.RowKit Go.Sx
set_option maxRecDepth 100000
set_option linter.unusedSimpArgs false
set_option linter.unusedVariables false
theorem take_put {l : List VoteV} {v : VoteV} (h : takeL l v = 0) : (putV v.abs).2 = 0 := by
  refine Classical.byContradiction fun hn => ?_
  unfold takeL at h
  rw [if_pos hn] at h
  cases h
theorem mem_keys {es : List (Ent EraV VoteV)} {a : EraV} : a ∈ es.map (·.k) ↔ (getE es a).isSome = true := by
  simp only [getE, Option.isSome_map, List.find?_isSome, List.mem_map, decide_eq_true_eq]
  constructor
  · rintro ⟨e, he, rfl⟩; exact ⟨e, he, rfl⟩
  · rintro ⟨e, he, h⟩; exact ⟨e, he, h.symm⟩
theorem nodup_lenK {α : Type} [DecidableEq α] : ∀ (l m : List α), l.Nodup → (∀ x ∈ l, x ∈ m) → l.length ≤ m.length
  | [], _, _, _ => Nat.zero_le _
  | x :: l, m, hn, h => by
    obtain ⟨h1, h2⟩ := List.nodup_cons.1 hn
    have hx := h x (by simp)
    have := nodup_lenK l (m.erase x) h2 (fun y hy => (List.mem_erase_of_ne (by rintro rfl; exact h1 hy)).2 (h y (by simp [hy])))
    rw [List.length_erase_of_mem hx] at this
    have := List.length_pos_of_mem hx
    simp only [List.length_cons]
    omega
theorem wrote_iff {y : BkS} {l : List VoteV} (h : SameD y.abs l) (a : EraV) : (getE y.es a).isSome = (wroteL l a).isSome := by
  have := h.wrote a
  rw [BkS.get] at this
  exact map_some this
theorem keys_in {y : BkS} {l : List VoteV} (h : SameD y.abs l) (hc : Came l) : ∀ e ∈ y.es, e.k ∈ grid := fun e he => by
  refine came_grid hc ?_
  rw [← wrote_iff h]
  exact mem_keys.1 (List.mem_map.2 ⟨e, he, rfl⟩)
theorem keys_len {y : BkS} {l : List VoteV} (ho : y.Ok) (h : SameD y.abs l) : y.es.length ≤ l.length := by
  have := nodup_lenK (y.es.map (·.k)) (l.map fun v => (⟨v.view, v.reg⟩ : EraV)) ho.good.keys (fun a ha => by
    have h1 := mem_keys.1 ha
    rw [wrote_iff h] at h1
    obtain ⟨v, hv⟩ := Option.isSome_iff_exists.1 h1
    obtain ⟨hm, -, -, h4, h5⟩ := wroteL_spec hv
    exact List.mem_map.2 ⟨v, hm, by rw [h4, h5]⟩)
  simpa using this
/-- What a book tells is what the document says. -/
theorem all_told {y : BkS} {l zs ds : List VoteV} (ho : y.Ok) (h : SameD y.abs l) (hc : Came l) (ha : AllB y zs ds) : zs.map VoteV.abs = (allL l).map VoteV.abs := by
  obtain ⟨ks, hp, hs, hz⟩ := ha.keys
  rw [hz, allL, List.map_append, List.map_append]
  have hent : y.k.entered = decide (0 ≤ (regL l).1) := h.ent
  have e1 : regB y.k.entered y.k.now = regP l := by
    unfold regB regP
    by_cases h0 : 0 ≤ (regL l).1
    · have hn := h.now (hent.trans (decide_eq_true h0))
      have hn : y.k.now = ⟨(regL l).1, (regL l).2⟩ := hn
      rw [if_pos h0, hent, decide_eq_true h0, if_pos rfl, hn]
    · rw [if_neg h0, hent, decide_eq_false h0, if_neg (by decide)]
  have e2 : ks.map (oneD y.es) = (grid.filterMap (wroteL l)).map VoteV.abs := by
    rw [← keys_votes hc (sortedK_mem hp hs ho.good.keys) (fun a => by rw [hp.mem_iff, mem_keys, wrote_iff h]), List.map_map, List.map_map]
    refine List.map_congr_left fun x _ => ?_
    have := h.wrote (toE x)
    rw [BkS.get] at this
    exact map_getD this
  have e3 : (y.acc.map fun q => q.2.abs).toList = (accL l).toList.map VoteV.abs := by
    have : (y.acc.map fun q => q.2.abs) = (accL l).map VoteV.abs := h.acc
    rw [this]
    cases accL l <;> rfl
  rw [e1, e2, e3]
theorem rd_nilv {w0 : World} {H : List SA} {u : VoteV} {vs : List VoteV} (hb : u.batch = ⟨none, 0, []⟩) (hc : u.cert = ⟨none, 0, []⟩) (h : RdVs w0 H vs) : RdVs w0 H (u :: vs) :=
  ⟨fun v hv => by
    rcases List.mem_cons.1 hv with rfl | hv
    · rw [hb]; exact ⟨fun w hw => ⟨none, 0, 0, rfl, rfl, by omega, by decide, fun h => absurd h (by simp)⟩⟩
    · exact h.b v hv, fun v hv => by
    rcases List.mem_cons.1 hv with rfl | hv
    · rw [hc]; exact ⟨fun w hw => ⟨none, 0, 0, rfl, rfl, by omega, by decide, fun h => absurd h (by simp)⟩⟩
    · exact h.c v hv, fun v hv => by
    rcases List.mem_cons.1 hv with rfl | hv
    · rw [hc]; exact ⟨fun x hx => by simp at hx⟩
    · exact h.e v hv⟩
theorem rd_told {w0 : World} {H : List SA} {y : BkS} {zs ds : List VoteV} {fp : List Nat} (ha : AllB y zs ds) : RdVs w0 (datV fp ds :: H) zs :=
  rds_sub (rd_nilv (u := regV (y.k.now.view, y.k.now.reg)) rfl rfl RdVs.own) (fun z hz => by
    rcases ha.data z hz with h | h
    · rw [h]; simp
    · exact List.mem_cons_of_mem _ h)
theorem rd_allL {w0 : World} {H : List SA} {l : List VoteV} (h : RdVs w0 H l) : RdVs w0 H (allL l) :=
  rds_sub (rd_nilv (u := regV (regL l)) rfl rfl h) (fun z hz => by
    rcases all_mem hz with ⟨-, h⟩ | ⟨h, -⟩ | ⟨h, -⟩
    · rw [h]; simp
    · exact List.mem_cons_of_mem _ h
    · exact List.mem_cons_of_mem _ h)
theorem small_allL {l : List VoteV} (h : ∀ v ∈ l, SmallV v.abs) : ∀ v ∈ allL l, SmallV v.abs := fun v hv => by
  rcases all_mem hv with ⟨-, h1⟩ | ⟨h1, -⟩ | ⟨h1, -⟩
  · rw [h1]; exact ⟨by simp [regV, VoteV.zero, VoteV.abs], by simp [regV, VoteV.zero, VoteV.abs], by simp [regV, VoteV.zero, VoteV.abs]⟩
  · exact h v h1
  · exact h v h1
theorem told_get {zs us : List VoteV} (h : zs.map VoteV.abs = us.map VoteV.abs) (k : Nat) (hk : k < zs.length) (hu : k < us.length) : zs[k].abs = us[k].abs := by
  have h1 : (zs.map VoteV.abs)[k]? = (us.map VoteV.abs)[k]? := by rw [h]
  rw [List.getElem?_map, List.getElem?_map, List.getElem?_eq_getElem hk, List.getElem?_eq_getElem hu] at h1
  simpa using h1
set_option maxHeartbeats 1000000 in
theorem votesAll_c {w0 : World} {H : List SA} {a : Option Addr} {vs : List VoteV} {c : Nat} [hr : RdC w0 H (.slice a vs.length c) 38 (vs.flatMap VoteV.list)] [rv : RdVs w0 H vs] :
    CT Try.prog w0 (H) 7 [.slice a vs.length c] (α := Unit) (fun _ => .bool true) (fun _ => H) := by
  refine CT_intro Try.func7 rfl Try.ntmps7 rfl ?_
  refine T_seq ?_
  refine T_region ?_
  refine TL_q (Qt_assign (.bool _) rfl) rfl ?_
  refine TL_nil ?_
  refine X_then ?_
  refine T_seq ?_
  refine T_seq ?_
  refine T_region ?_
  refine TL_e rfl (Ef_call (wakes_c) rfl (fun x11 => ?_))
  refine TL_q (Qt_not rfl) rfl ?_
  refine TL_nil ?_
  refine X_then ?_
  refine T_cond rfl (fun h12 => ?_) (fun h12 => ?_)
  ·
    have p12 := h12
    try simp only [decide_eq_true_eq, decide_eq_false_iff_not, Bool.not_eq_true', Bool.not_eq_false', Option.isNone_iff_eq_none, ne_eq, Decidable.not_not, Int.not_lt, Int.not_le] at p12
    cases h12
  ·
    have p12 := h12
    try simp only [decide_eq_true_eq, decide_eq_false_iff_not, Bool.not_eq_true', Bool.not_eq_false', Option.isNone_iff_eq_none, ne_eq, Decidable.not_not, Int.not_lt, Int.not_le] at p12
    refine T_skip ?_
    refine X_then ?_
    refine T_seq ?_
    refine T_seq ?_
    refine T_region ?_
    refine TL_q (Qt_move (.slice _ _ _) rfl) rfl ?_
    refine TL_e rfl (Ef_call (long_c (vs := vs)) rfl (fun x14 => ?_))
    refine TL_nil ?_
    refine X_then ?_
    refine T_cond rfl (fun h14 => ?_) (fun h14 => ?_)
    ·
      have p14 := h14
      try simp only [decide_eq_true_eq, decide_eq_false_iff_not, Bool.not_eq_true', Bool.not_eq_false', Option.isNone_iff_eq_none, ne_eq, Decidable.not_not, Int.not_lt, Int.not_le] at p14
      refine T_seq ?_
      refine T_region ?_
      refine TL_q (Qt_assign (.bool _) rfl) rfl ?_
      refine TL_nil ?_
      refine X_then ?_
      refine T_ret ?_
      refine X_then_ret ?_
      exact X_ret () [_] Try.results7 ⟨rfl, trivial⟩ rfl (Subs.st inferInstance)
    ·
      have p14 := h14
      try simp only [decide_eq_true_eq, decide_eq_false_iff_not, Bool.not_eq_true', Bool.not_eq_false', Option.isNone_iff_eq_none, ne_eq, Decidable.not_not, Int.not_lt, Int.not_le] at p14
      have hlg : longB (vs.map VoteV.abs) = false := h14
      have h40 := long_len hlg
      rw [List.length_map] at h40
      refine T_skip ?_
      refine X_then ?_
      refine T_seq ?_
      refine T_region ?_
      refine TL_e rfl (Ef_call (new_c) rfl (fun x15 => ?_))
      refine TL_q (Qt_assign (.pointer _) rfl) rfl ?_
      refine TL_nil ?_
      refine X_then ?_
      refine T_seq ?_
      refine T_region ?_
      refine TL_q (Qt_assign (.slice _ _ _) rfl) rfl ?_
      refine TL_nil ?_
      refine X_then ?_
      refine T_seq ?_
      refine T_seq ?_
      refine T_region ?_
      refine TL_q (Qt_move (.slice _ _ _) rfl) rfl ?_
      refine TL_q (Qt_len_slice rfl Try.underlying30) rfl ?_
      refine TL_q (Qt_move (.int .i64 _) rfl) rfl ?_
      refine TL_nil ?_
      refine X_then ?_
      refine T_block ?_
      refine T_loop [4, 6, 18, 19, 20, 21, 22, 23, 24, 25, 26, 27, 28, 29, 30] [18, 4] (fun us H' => ∃ (k : Nat) (y : BkS) (cl : List VoteV) (a : Option Addr) (c : Nat), us = [.int .i64 (k : Int), .slice a cl.length c] ∧ BkS.H y x15.1 (row (.slice a (cl).length c) 27 38 ((cl).flatMap VoteV.list) :: H) = H' ∧ k ≤ vs.length ∧ y.Ok ∧ SameD y.abs cl ∧ (∀ v ∈ cl, v ∈ vs) ∧ cl.length ≤ k ∧ Came cl) (fun us => match us with | .int _ i :: _ => vs.length - i.toNat | _ => 0) ⟨0, BkS.made x15.2, [], none, 0, rfl, rfl, by omega, BkS.made_ok _, SameD.start, by simp, by simp, fun _ h => by cases h⟩ (fun w hw => Subs.st (H' := BkS.H (BkS.made x15.2) x15.1 (row (.slice none 0 0) 27 38 [] :: H)) inferInstance w (St.addNil 27 38 hw)) ?_
      rintro τ0 _ _  ⟨k, y, cl, ac, cc, rfl, rfl, hk0, hy, hsd, hsub, hcl, hcm⟩ _
      refine T_seq ?_
      refine T_region ?_
      refine TL_q (Qt_lss rfl rfl) rfl ?_
      refine TL_nil ?_
      refine X_then ?_
      refine T_seq ?_
      refine T_cond rfl (fun h19 => ?_) (fun h19 => ?_)
      ·
        have p19 := h19
        try simp only [decide_eq_true_eq, decide_eq_false_iff_not, Bool.not_eq_true', Bool.not_eq_false', Option.isNone_iff_eq_none, ne_eq, Decidable.not_not, Int.not_lt, Int.not_le] at p19
        have hk : k < vs.length := by omega
        refine T_skip ?_
        refine X_then ?_
        refine T_seq ?_
        refine T_block ?_
        refine T_seq ?_
        refine T_region ?_
        refine TL_q (Qt_indexN rfl rfl (by omega) (by omega)) rfl ?_
        refine TL_q (Qt_loadVote (k := k) rfl hk) rfl ?_
        refine TL_e rfl (Ef_allocN (fun b6 => ?_))
        refine TL_n (Ef_storeN rfl rfl (?_))
        refine TL_nil ?_
        refine X_then ?_
        refine T_seq ?_
        refine T_region ?_
        refine TL_q (Qt_move (.pointer _) rfl) rfl ?_
        refine TL_q (Qt_loadN rfl rfl) rfl ?_
        refine TL_drop (BkS.H y x15.1 (blk b6 (.cells vs[k].cells 27 (0, 0)) :: row (.slice ac (cl).length cc) 27 38 ((cl).flatMap VoteV.list) :: H)) ?_
        have hvk := List.getElem_mem hk
        have rb := rv.b vs[k] hvk
        have rc := rv.c vs[k] hvk
        have re := rv.e vs[k] hvk
        have hsk := small_of_long hlg _ (List.mem_map.2 ⟨_, hvk, rfl⟩)
        obtain ⟨ht1, ht2, ht3⟩ := take_same (v := vs[k]) hsd
        refine TL_e rfl (Ef_call (take_c (y := y) (v := vs[k]) hy hsk) rfl (fun x24 => ?_))
        refine TL_pure (fun hz => ?_)
        rw [← hz.2] at ht2 ht3
        refine TL_q (Qt_eql rfl rfl) rfl ?_
        refine TL_nil ?_
        refine X_then ?_
        refine T_cond rfl (fun h25 => ?_) (fun h25 => ?_)
        ·
          have p25 := h25
          try simp only [decide_eq_true_eq, decide_eq_false_iff_not, Bool.not_eq_true', Bool.not_eq_false', Option.isNone_iff_eq_none, ne_eq, Decidable.not_not, Int.not_lt, Int.not_le] at p25
          have hsame := ht2 p25
          have hsub35 : ∀ v ∈ cl ++ [vs[k]], v ∈ vs := fun v hv => (List.mem_append.1 hv).elim (hsub v) (fun h => (by obtain rfl : v = vs[k] := (by simpa using h); exact hvk))
          have hcl35 : (cl ++ [vs[k]]).length ≤ k + 1 := by simp; omega
          have hcm35 : Came (cl ++ [vs[k]]) := fun v hv => (List.mem_append.1 hv).elim (hcm v) (fun h => (by obtain rfl : v = vs[k] := (by simpa using h); exact take_put (ht1 ▸ p25)))
          refine T_region ?_
          refine TL_q (Qt_move (.slice _ _ _) rfl) rfl ?_
          refine TL_q (Qt_loadN rfl rfl) rfl ?_
          refine TL_e rfl (Ef_sliceN (m := [vs[k]].length) [.agg vs[k].cells] ([vs[k]].flatMap VoteV.list) rfl rfl rfl rfl (by simp [Value.cells, VoteV.size]) rfl rfl (fun a28 c28 => ?_))
          refine TL_e rfl (Ef_appendS VoteV.list (sv := .slice _ _ _) (xv := .slice _ _ _) (xs := cl) (ys := [vs[k]]) VoteV.list_len VoteV.list_one rfl rfl (by simp; omega) rfl rfl (fun a29 c29 => ?_))
          refine TL_q (Qt_assign (.slice _ _ _) rfl) rfl ?_
          refine TL_nil ?_
          refine X_block ?_
          refine X_then ?_
          refine T_region ?_
          first
            | refine TL_q (Qt_add rfl rfl (by omega) (by omega)) rfl ?_
            | refine TL_q (Qt_addw rfl rfl) rfl ?_
          refine TL_q (Qt_move (.int .i64 _) rfl) rfl ?_
          refine TL_nil ?_
          apply X_loop
          case ha => exact (by repeat (first | with_reducible exact agree_refl | refine agree_upd rfl ?_ | refine agree_mix rfl ?_ | refine agree_setAll rfl ?_))
          case hI => exact ⟨k + 1, x24, _, _, _, rfl, rfl, by omega, hz.1, hsame, hsub35, hcl35, hcm35⟩
          case hm => exact by show vs.length - (k + 1 : Int).toNat < vs.length - (k : Int).toNat; omega
          case hH => exact Subs.st inferInstance
        ·
          have p25 := h25
          try simp only [decide_eq_true_eq, decide_eq_false_iff_not, Bool.not_eq_true', Bool.not_eq_false', Option.isNone_iff_eq_none, ne_eq, Decidable.not_not, Int.not_lt, Int.not_le] at p25
          have hsame := ht3 p25
          have hsub35 := hsub
          have hcl35 : cl.length ≤ k + 1 := by omega
          have hcm35 := hcm
          refine T_skip ?_
          refine X_block ?_
          refine X_then ?_
          refine T_region ?_
          first
            | refine TL_q (Qt_add rfl rfl (by omega) (by omega)) rfl ?_
            | refine TL_q (Qt_addw rfl rfl) rfl ?_
          refine TL_q (Qt_move (.int .i64 _) rfl) rfl ?_
          refine TL_nil ?_
          apply X_loop
          case ha => exact (by repeat (first | with_reducible exact agree_refl | refine agree_upd rfl ?_ | refine agree_mix rfl ?_ | refine agree_setAll rfl ?_))
          case hI => exact ⟨k + 1, x24, _, _, _, rfl, rfl, by omega, hz.1, hsame, hsub35, hcl35, hcm35⟩
          case hm => exact by show vs.length - (k + 1 : Int).toNat < vs.length - (k : Int).toNat; omega
          case hH => exact Subs.st inferInstance
      ·
        have p19 := h19
        try simp only [decide_eq_true_eq, decide_eq_false_iff_not, Bool.not_eq_true', Bool.not_eq_false', Option.isNone_iff_eq_none, ne_eq, Decidable.not_not, Int.not_lt, Int.not_le] at p19
        have hsmc : ∀ v ∈ cl, SmallV v.abs := fun v hv => small_of_long hlg _ (List.mem_map.2 ⟨_, hsub v hv, rfl⟩)
        refine T_exit ?_
        refine X_then_exit ?_
        refine X_loop_exit ?_
        refine X_block_exit ?_
        refine X_then ?_
        refine T_seq ?_
        refine T_region ?_
        refine TL_q (Qt_move (.pointer _) rfl) rfl ?_
        refine TL_drop (BkS.H y x15.1 (row (.slice ac (cl).length cc) 27 38 ((cl).flatMap VoteV.list) :: H)) ?_
        refine TL_e rfl (Ef_call (all_c (p := x15.1) (y := y) hy (keys_in hsd hcm) (by have := keys_len hy hsd; omega)) rfl (fun x32 => ?_))
        refine TL_pure (fun h32 => ?_)
        have htold := all_told hy hsd hcm h32
        have hlen : x32.2.1.length = (allL cl).length := by have := congrArg List.length htold; simpa using this
        refine TL_q (Qt_assign (.slice _ _ _) rfl) rfl ?_
        refine TL_nil ?_
        refine X_then ?_
        refine T_seq ?_
        refine T_region ?_
        refine TL_q (Qt_move (.slice _ _ _) rfl) rfl ?_
        have rvc : RdVs w0 H cl := rds_sub rv hsub
        refine TL_e rfl (Ef_call (rAll_c (vs := cl) (by omega)) rfl (fun x34 => ?_))
        refine TL_q (Qt_assign (.slice _ _ _) rfl) rfl ?_
        refine TL_nil ?_
        refine X_then ?_
        refine T_seq ?_
        refine T_seq ?_
        refine T_region ?_
        refine TL_q (Qt_move (.slice _ _ _) rfl) rfl ?_
        refine TL_q (Qt_len_slice rfl Try.underlying30) rfl ?_
        refine TL_q (Qt_move (.slice _ _ _) rfl) rfl ?_
        refine TL_q (Qt_len_slice rfl Try.underlying30) rfl ?_
        refine TL_q (Qt_neq rfl rfl) rfl ?_
        refine TL_nil ?_
        refine X_then ?_
        refine T_cond rfl (fun h39 => ?_) (fun h39 => ?_)
        ·
          have p39 := h39
          try simp only [decide_eq_true_eq, decide_eq_false_iff_not, Bool.not_eq_true', Bool.not_eq_false', Option.isNone_iff_eq_none, ne_eq, Decidable.not_not, Int.not_lt, Int.not_le] at p39
          exact absurd h39 (by simp [hlen])
        ·
          have p39 := h39
          try simp only [decide_eq_true_eq, decide_eq_false_iff_not, Bool.not_eq_true', Bool.not_eq_false', Option.isNone_iff_eq_none, ne_eq, Decidable.not_not, Int.not_lt, Int.not_le] at p39
          refine T_skip ?_
          refine X_then ?_
          refine T_seq ?_
          refine T_region ?_
          refine TL_e rfl (Ef_call (new_c) rfl (fun x40 => ?_))
          refine TL_q (Qt_assign (.pointer _) rfl) rfl ?_
          refine TL_nil ?_
          refine X_then ?_
          refine T_seq ?_
          refine T_seq ?_
          refine T_region ?_
          refine TL_q (Qt_move (.slice _ _ _) rfl) rfl ?_
          refine TL_q (Qt_len_slice rfl Try.underlying30) rfl ?_
          refine TL_q (Qt_move (.int .i64 _) rfl) rfl ?_
          refine TL_nil ?_
          refine X_then ?_
          refine T_block ?_
          refine T_loop [2, 10, 43, 44, 45, 46, 47, 48, 49, 50, 51, 52, 53, 54, 55, 56, 57, 58, 59, 60, 61, 62, 63, 64, 65] [43] (fun us H' => ∃ (k : Nat) (m : BkS), us = [.int .i64 (k : Int)] ∧ BkS.H m x40.1 (row (.slice x32.1.a (x32.2.1).length x32.1.c) 27 38 ((x32.2.1).flatMap VoteV.list) :: row (.slice x34.a (allL cl).length x34.c) 27 38 ((allL cl).flatMap VoteV.list) :: datV x32.2.2.1 x32.2.2.2 :: row (.slice ac (cl).length cc) 27 38 ((cl).flatMap VoteV.list) :: H) = H' ∧ k ≤ x32.2.1.length ∧ m.Ok ∧ SameD m.abs ((allL cl).take k)) (fun us => match us with | .int _ i :: _ => x32.2.1.length - i.toNat | _ => 0) ⟨0, BkS.made x40.2, rfl, rfl, by omega, BkS.made_ok _, SameD.start⟩ (Subs.st inferInstance) ?_
          rintro τ1 _ _  ⟨k, m, rfl, rfl, hk0, hm, hmd⟩ _
          refine T_seq ?_
          refine T_region ?_
          refine TL_q (Qt_lss rfl rfl) rfl ?_
          refine TL_nil ?_
          refine X_then ?_
          refine T_seq ?_
          refine T_cond rfl (fun h44 => ?_) (fun h44 => ?_)
          ·
            have p44 := h44
            try simp only [decide_eq_true_eq, decide_eq_false_iff_not, Bool.not_eq_true', Bool.not_eq_false', Option.isNone_iff_eq_none, ne_eq, Decidable.not_not, Int.not_lt, Int.not_le] at p44
            have hk : k < x32.2.1.length := by omega
            have hku : k < (allL cl).length := by omega
            have hab := told_get htold k hk hku
            have hsz : SmallV x32.2.1[k].abs := by rw [hab]; exact small_allL hsmc _ (List.getElem_mem hku)
            obtain ⟨hm0, hm1, -⟩ := take_same (v := (allL cl)[k]) hmd
            rw [all_take hcm k hku] at hm0
            have hm1 := hm1 hm0
            have hm0z := hm0
            rw [← hab] at hm0 hm1
            have hlb := allL_len cl
            refine T_skip ?_
            refine X_then ?_
            refine T_seq ?_
            refine T_block ?_
            refine T_seq ?_
            refine T_region ?_
            refine TL_q (Qt_move (.int .i64 _) rfl) rfl ?_
            refine TL_q (Qt_assign (.int .i64 _) rfl) rfl ?_
            refine TL_nil ?_
            refine X_then ?_
            refine T_seq ?_
            refine T_draw (row (.slice x32.1.a (x32.2.1).length x32.1.c) 27 38 ((x32.2.1).flatMap VoteV.list) :: row (.slice x34.a (allL cl).length x34.c) 27 38 ((allL cl).flatMap VoteV.list) :: datV x32.2.2.1 x32.2.2.2 :: row (.slice ac (cl).length cc) 27 38 ((cl).flatMap VoteV.list) :: H) [(0, true), (1, true), (2, true), (3, true), (4, true), (5, true), (6, true), (7, true), (8, false), (9, true), (10, true), (11, true), (12, true), (13, true), (14, true), (15, true), (16, false), (17, true), (18, true)] (by kernel_rfl) (by kernel_rfl) rfl (by kernel_rfl) (Subs.st inferInstance) (fun hns0 => ?_)
            refine DL_q hns0 rfl (Qt_move (.slice _ _ _) rfl) rfl ?_
            refine DL_q hns0 rfl (Qt_move (.int .i64 _) rfl) rfl ?_
            refine DL_q hns0 rfl (Qt_indexN rfl rfl (by omega) (by omega)) rfl ?_
            refine DL_q hns0 rfl (Qt_loadVote (k := k) rfl hk) rfl ?_
            refine DL_q hns0 rfl (Qt_move (.slice _ _ _) rfl) rfl ?_
            refine DL_q hns0 rfl (Qt_move (.int .i64 _) rfl) rfl ?_
            refine DL_q hns0 rfl (Qt_indexN rfl rfl (by omega) (by omega)) rfl ?_
            refine DL_q hns0 rfl (Qt_loadVote (k := k) rfl hku) rfl ?_
            have rvz : RdVs w0 (datV x32.2.2.1 x32.2.2.2 :: row (.slice ac (cl).length cc) 27 38 ((cl).flatMap VoteV.list) :: H) x32.2.1 := rd_told h32
            have hzk := List.getElem_mem hk
            have rbz := rvz.b _ hzk
            have rcz := rvz.c _ hzk
            have rez := rvz.e _ hzk
            have rvu : RdVs w0 H (allL cl) := rd_allL rvc
            have huk := List.getElem_mem hku
            have rbu := rvu.b _ huk
            have rcu := rvu.c _ huk
            have reu := rvu.e _ huk
            refine DL_e rfl rfl (Ef_call (same13_c (v := x32.2.1[k]) (u := (allL cl)[k]) (by have := hsz.batch; omega) (by have := hsz.cert; omega) (fun x hx => by have := hsz.each x hx; omega)) rfl (fun x54 => ⟨(Subs.st inferInstance), ?_⟩))
            refine DL_q hns0 rfl (Qt_not rfl) rfl ?_
            refine DL_q hns0 rfl (Qt_move (.bool _) rfl) rfl ?_
            refine DL_split 56 rfl (fun h56 => ?_) (fun h56 => ?_)
            ·
              have p56 := h56
              try simp only [decide_eq_true_eq, decide_eq_false_iff_not, Bool.not_eq_true', Bool.not_eq_false', Option.isNone_iff_eq_none, ne_eq, Decidable.not_not, Int.not_lt, Int.not_le] at p56
              exact absurd h56 (by simp [hab])
            ·
              have p56 := h56
              try simp only [decide_eq_true_eq, decide_eq_false_iff_not, Bool.not_eq_true', Bool.not_eq_false', Option.isNone_iff_eq_none, ne_eq, Decidable.not_not, Int.not_lt, Int.not_le] at p56
              refine DL_qg hns0 rfl rfl rfl h56 (Qt_move (.pointer _) rfl) rfl ?_
              refine DL_qg hns0 rfl rfl rfl h56 (Qt_move (.slice _ _ _) rfl) rfl ?_
              refine DL_qg hns0 rfl rfl rfl h56 (Qt_move (.int .i64 _) rfl) rfl ?_
              refine DL_qg hns0 rfl rfl rfl h56 (Qt_indexN rfl rfl (by omega) (by omega)) rfl ?_
              refine DL_qg hns0 rfl rfl rfl h56 (Qt_loadVote (k := k) rfl hk) rfl ?_
              refine DL_eg rfl rfl rfl h56 rfl (Ef_call (take_c (p := x40.1) (y := m) (v := x32.2.1[k]) hm hsz) rfl (fun x62 => ⟨(Subs.st inferInstance), ?_⟩))
              refine DL_pure (fun hz2 => ?_)
              rw [← hz2.2] at hm1
              refine DL_qg hns0 rfl rfl rfl h56 (Qt_neq rfl rfl) rfl ?_
              refine DL_q hns0 rfl (Qt_pick_f (.bool _) rfl h56 rfl) rfl ?_
              refine DL_nil ?_
              refine X_then ?_
              refine T_cond rfl (fun h64 => ?_) (fun h64 => ?_)
              ·
                have p64 := h64
                try simp only [decide_eq_true_eq, decide_eq_false_iff_not, Bool.not_eq_true', Bool.not_eq_false', Option.isNone_iff_eq_none, ne_eq, Decidable.not_not, Int.not_lt, Int.not_le] at p64
                exact absurd h64 (by simp [hab, hm0z])
              ·
                have p64 := h64
                try simp only [decide_eq_true_eq, decide_eq_false_iff_not, Bool.not_eq_true', Bool.not_eq_false', Option.isNone_iff_eq_none, ne_eq, Decidable.not_not, Int.not_lt, Int.not_le] at p64
                have hm2 : SameD x62.abs ((allL cl).take (k + 1)) := by rw [List.take_succ_eq_append_getElem hku]; exact hm1
                refine T_skip ?_
                refine X_block ?_
                refine X_then ?_
                refine T_region ?_
                first
                  | refine TL_q (Qt_add rfl rfl (by omega) (by omega)) rfl ?_
                  | refine TL_q (Qt_addw rfl rfl) rfl ?_
                refine TL_q (Qt_move (.int .i64 _) rfl) rfl ?_
                refine TL_nil ?_
                apply X_loop
                case ha => exact (by repeat (first | with_reducible exact agree_refl | refine agree_upd rfl ?_ | refine agree_mix rfl ?_ | refine agree_setAll rfl ?_))
                case hI => exact ⟨k + 1, x62, rfl, rfl, by omega, hz2.1, hm2⟩
                case hm => exact by show x32.2.1.length - (k + 1 : Int).toNat < x32.2.1.length - (k : Int).toNat; omega
                case hH => exact Subs.st inferInstance
          ·
            have p44 := h44
            try simp only [decide_eq_true_eq, decide_eq_false_iff_not, Bool.not_eq_true', Bool.not_eq_false', Option.isNone_iff_eq_none, ne_eq, Decidable.not_not, Int.not_lt, Int.not_le] at p44
            have hke : k = (allL cl).length := by omega
            rw [hke, List.take_length] at hmd
            have hfin := all_same hcm hmd
            refine T_exit ?_
            refine X_then_exit ?_
            refine X_loop_exit ?_
            refine X_block_exit ?_
            refine X_then ?_
            refine T_seq ?_
            refine T_region ?_
            refine TL_q (Qt_move (.pointer _) rfl) rfl ?_
            refine TL_q (Qt_move (.slice _ _ _) rfl) rfl ?_
            refine TL_drop (BkS.H m x40.1 (row (.slice ac (cl).length cc) 27 38 ((cl).flatMap VoteV.list) :: H)) ?_
            refine TL_e rfl (Ef_call (sameBook_c (p := x40.1) (y := m) (ls := cl) (by omega) hm hfin.same hsmc) rfl (fun x68 => ?_))
            refine TL_q (Qt_assign (.bool _) rfl) rfl ?_
            refine TL_nil ?_
            refine X_then ?_
            refine T_ret ?_
            exact X_ret () [_] Try.results7 ⟨rfl, trivial⟩ rfl (Subs.st inferInstance)
end Go.Proofs.Ytdjbhpdfkopdgaa
