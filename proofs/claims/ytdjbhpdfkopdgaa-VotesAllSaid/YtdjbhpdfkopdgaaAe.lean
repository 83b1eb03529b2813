/- Walks: all votes of a book. -/
import Derived.Test.YtdjbhpdfkopdgaaAd
namespace Go.Proofs.Ytdjbhpdfkopdgaa
open Go.RowKit Go.Sx
set_option maxRecDepth 100000
set_option linter.unusedSimpArgs false
set_option linter.unusedVariables false
def regB (en : Bool) (now : EraV) : List VoteV := if en then [regV (now.view, now.reg)] else []
def oneD (es : List (Ent EraV VoteV)) (x : EK) : VoteD := ((getE es (toE x)).getD VoteV.zero).abs
/-- The votes that a book tells. -/
structure AllB (y : BkS) (zs ds : List VoteV) : Prop where
  keys : ∃ ks : List EK, (ks.map toE).Perm (y.es.map (·.k)) ∧ SortedK ks ∧ zs.map VoteV.abs = (regB y.k.entered y.k.now).map VoteV.abs ++ (ks.map (oneD y.es) ++ (y.acc.map fun q => q.2.abs).toList)
  data : ∀ z ∈ zs, z = regV (y.k.now.view, y.k.now.reg) ∨ z ∈ ds
theorem Qt_loadKey {w0 : World} {H : List SA} {σ : Env} {d : Option Nat} {ty : TypeId} {pos : String} {aft : Array Edge} {g : Option (Nat × Bool)} {x : Operand} {n c k : Nat} {a : Option Addr} {ks : List EK} (hx : ev σ x = .pointer (ptrOf (.slice a n c) (k * 2))) [hr : RdC w0 H (.slice a n c) 2 (ks.flatMap encK)] (hk : k < ks.length) :
    Qt Try.prog w0 H σ ⟨d, .load 57 x, ty, pos, aft, g⟩ (.agg (toE ks[k]).cells) := Qt_loadRN 2 (encK ks[k]) hx (flat_slice _ 2 encK_len ks k hk) (encK_len _) (by decide)
theorem map_snoc {ks : List EK} {es : List (Ent EraV VoteV)} {zs : List VoteV} {R : List VoteD} {k : Nat} (hk : k < ks.length) (hz : zs.map VoteV.abs = R ++ (ks.take k).map (oneD es)) {v : VoteV} (hv : v.abs = oneD es ks[k]) : (zs ++ [v]).map VoteV.abs = R ++ (ks.take (k + 1)).map (oneD es) := by
  rw [List.map_append, hz, List.take_succ_eq_append_getElem hk, List.map_append, List.append_assoc]
  simp [hv]
set_option maxHeartbeats 1000000 in
theorem all_false {w0 : World} {H : List SA} {p r c : Nat} {now : EraV} {sl : Int} {ac : Option Addr} {es : List (Ent EraV VoteV)} {acc : Option (Nat × VoteV)} {fp : List Nat} {vs : List VoteV} (ho : BkS.Ok ⟨⟨now, false, sl, some r, ac⟩, r, es, c, acc, fp, vs⟩) (hin : ∀ e ∈ es, e.k ∈ grid) (hne : es.length ≤ 1000) :
    CT Try.prog w0 (BkS.H ⟨⟨now, false, sl, some r, ac⟩, r, es, c, acc, fp, vs⟩ p H) 25 [.pointer (some ⟨p, 0, none⟩)] (α := AC × List VoteV × List Nat × List VoteV) (fun z => .slice z.1.a z.2.1.length z.1.c) (fun z => pu (AllB ⟨⟨now, false, sl, some r, ac⟩, r, es, c, acc, fp, vs⟩ z.2.1 z.2.2.2) :: row (.slice z.1.a (z.2.1).length z.1.c) 27 38 ((z.2.1).flatMap VoteV.list) :: datV z.2.2.1 z.2.2.2 :: BkS.H ⟨⟨now, false, sl, some r, ac⟩, r, es, c, acc, fp, vs⟩ p H) := by
  refine CT_intro Try.func25 rfl Try.ntmps25 rfl ?_
  refine T_seq ?_
  refine T_region ?_
  refine TL_q (Qt_assign (.slice _ _ _) rfl) rfl ?_
  refine TL_nil ?_
  refine X_then ?_
  refine T_seq ?_
  refine T_seq ?_
  refine T_region ?_
  refine TL_q (Qt_move (.pointer _) rfl) rfl ?_
  refine TL_q (Qt_ptr_nil rfl rfl Try.underlying31) rfl ?_
  refine TL_nil ?_
  refine X_then ?_
  refine T_cond_false rfl (by first | rfl | decide) ?_
  refine T_skip ?_
  refine X_then ?_
  refine T_seq ?_
  refine T_region ?_
  refine TL_q (Qt_assign (.slice _ _ _) rfl) rfl ?_
  refine TL_nil ?_
  refine X_then ?_
  refine T_seq ?_
  refine T_seq ?_
  refine T_region ?_
  refine TL_q (Qt_move (.pointer _) rfl) rfl ?_
  refine TL_q (Qt_nilCheck rfl) rfl ?_
  refine TL_q (Qt_fieldAddr 2 rfl rfl) rfl ?_
  refine TL_q (Qt_load1 rfl) rfl ?_
  refine TL_nil ?_
  refine X_then ?_
  refine T_cond_false rfl (by first | rfl | decide) ?_
  refine T_skip ?_
  refine X_then ?_
  refine T_seq ?_
  refine T_region ?_
  refine TL_q (Qt_move (.pointer _) rfl) rfl ?_
  refine TL_q (Qt_nilCheck rfl) rfl ?_
  refine TL_q (Qt_fieldAddr 4 rfl rfl) rfl ?_
  refine TL_q (Qt_load1 rfl) rfl ?_
  refine TL_e rfl (Ef_call (keysF_c (r := r)) rfl (fun x33 => ?_))
  refine TL_e rfl (Ef_call (sortedK_c (b := x33) (r := r) (c := c) (es := es) ho.good hin (by omega)) rfl (fun x34 => ?_))
  refine TL_pure (fun h34 => ?_)
  have hkl : x34.2.length ≤ 1000 := by have := h34.1.length_eq; simp at this; omega
  refine TL_q (Qt_assign (.slice _ _ _) rfl) rfl ?_
  refine TL_nil ?_
  refine X_then ?_
  refine T_seq ?_
  refine T_seq ?_
  refine T_region ?_
  refine TL_q (Qt_move (.slice _ _ _) rfl) rfl ?_
  refine TL_q (Qt_len_slice rfl Try.underlying82) rfl ?_
  refine TL_q (Qt_move (.int .i64 _) rfl) rfl ?_
  refine TL_nil ?_
  refine X_then ?_
  refine T_block ?_
  refine T_loop [3, 6, 37, 38, 39, 40, 41, 42, 43, 44, 45, 46, 47, 48, 49, 50, 51] [37, 3] (fun us H' => ∃ (k : Nat) (a : Option Addr) (c2 : Nat) (zs : List VoteV) (fp2 : List Nat) (ds : List VoteV), us = [.int .i64 (k : Int), .slice a zs.length c2] ∧ row (.slice a (zs).length c2) 27 38 ((zs).flatMap VoteV.list) :: row (.slice x34.1.a x34.2.length x34.1.c) 57 2 (x34.2.flatMap encK) :: datV fp2 ds :: BkS.H ⟨⟨now, false, sl, some r, ac⟩, r, es, c, acc, fp, vs⟩ p H = H' ∧ k ≤ x34.2.length ∧ (zs.map VoteV.abs = (regB false now).map VoteV.abs ++ (x34.2.take k).map (oneD es)) ∧ (∀ z ∈ zs, z = (regV (now.view, now.reg)) ∨ z ∈ ds)) (fun us => match us with | .int _ i :: _ => x34.2.length - i.toNat | _ => 0) ⟨0, none, 0, [], [], [], rfl, rfl, by omega, by simp [regB], by simp⟩ (fun w hw => by
        have h0 : St w0 (row (.slice x34.1.a x34.2.length x34.1.c) 57 2 (x34.2.flatMap encK) :: BkS.H ⟨⟨now, false, sl, some r, ac⟩, r, es, c, acc, fp, vs⟩ p H) w := Subs.st inferInstance w hw
        exact Subs.st (H' := row (.slice none 0 0) 27 38 [] :: row (.slice x34.1.a x34.2.length x34.1.c) 57 2 (x34.2.flatMap encK) :: datV [] [] :: BkS.H ⟨⟨now, false, sl, some r, ac⟩, r, es, c, acc, fp, vs⟩ p H) inferInstance w (St.datNil (h0.addNil 27 38))) ?_
  rintro τ0 _ _  ⟨k, a, c2, zs, fp2, ds, rfl, rfl, hk0, hzs, hzd⟩ _
  refine T_seq ?_
  refine T_region ?_
  refine TL_q (Qt_lss rfl rfl) rfl ?_
  refine TL_nil ?_
  refine X_then ?_
  refine T_seq ?_
  refine T_cond rfl (fun h38 => ?_) (fun h38 => ?_)
  ·
    have p38 := h38
    try simp only [decide_eq_true_eq, decide_eq_false_iff_not, Bool.not_eq_true', Bool.not_eq_false', Option.isNone_iff_eq_none, ne_eq, Decidable.not_not, Int.not_lt, Int.not_le] at p38
    have hk : k < x34.2.length := by omega
    have hzl : zs.length ≤ 1 + k := by have := congrArg List.length hzs; simp [regB] at this; omega
    refine T_skip ?_
    refine X_then ?_
    refine T_seq ?_
    refine T_block ?_
    refine T_seq ?_
    refine T_region ?_
    refine TL_q (Qt_indexN rfl rfl (by omega) (by omega)) rfl ?_
    refine TL_q (Qt_loadKey (k := k) rfl hk) rfl ?_
    refine TL_e rfl (Ef_allocN (fun b6 => ?_))
    refine TL_n (Ef_storeN rfl rfl (?_))
    refine TL_nil ?_
    refine X_then ?_
    refine T_draw (blk b6 (.cells (toE x34.2[k]).cells 57 (0, 0)) :: BkS.H ⟨⟨now, false, sl, some r, ac⟩, r, es, c, acc, fp, vs⟩ p H) [(0, true), (1, true), (2, true), (3, true), (4, true), (5, true), (6, true), (7, false), (8, false), (9, false), (10, true)] (by kernel_rfl) (by kernel_rfl) rfl (by kernel_rfl) (Subs.st inferInstance) (fun hns0 => ?_)
    refine DL_q hns0 rfl (Qt_move (.slice _ _ _) rfl) rfl ?_
    refine DL_q hns0 rfl (Qt_move (.pointer _) rfl) rfl ?_
    refine DL_q hns0 rfl (Qt_nilCheck rfl) rfl ?_
    refine DL_q hns0 rfl (Qt_fieldAddr 4 rfl rfl) rfl ?_
    refine DL_q hns0 rfl (Qt_load1 rfl) rfl ?_
    refine DL_q hns0 rfl (Qt_loadN rfl rfl) rfl ?_
    refine DL_q hns0 rfl (Qt_lookup1 (key := (toE x34.2[k])) (VoteV.zero) rfl rfl Try.underlying55 vote_zero) rfl ?_
    have hmz := getD_mem ho.there (toE x34.2[k])
    have hsm : SmallV ((getE es (toE x34.2[k])).getD VoteV.zero).abs := by
      rcases List.mem_cons.1 hmz with h | h
      · rw [h]; exact small_zero
      · exact ho.small _ h
    have rvs : RdVs w0 (datV fp vs :: H) (VoteV.zero :: vs) := rd_zero
    have rb := rvs.b _ hmz
    have rc := rvs.c _ hmz
    have re := rvs.e _ hmz
    refine DL_e rfl rfl (Ef_call (copied_c hsm) rfl (fun x48 => ⟨(Subs.st inferInstance), ?_⟩))
    refine DL_pure (fun h48 => ?_)
    refine DL_e rfl rfl (Ef_sliceN (m := [x48.1].length) [.agg x48.1.cells] ([x48.1].flatMap VoteV.list) rfl rfl rfl rfl (by simp [Value.cells, VoteV.size]) rfl rfl (fun a49 c49 => ⟨(Subs.st inferInstance), ?_⟩))
    refine DL_e rfl rfl (Ef_appendS VoteV.list (sv := .slice _ _ _) (xv := .slice _ _ _) (xs := zs) (ys := [x48.1]) VoteV.list_len VoteV.list_one rfl rfl (by simp; omega) rfl rfl (fun a50 c50 => ⟨(Subs.st inferInstance), ?_⟩))
    refine DL_q hns0 rfl (Qt_assign (.slice _ _ _) rfl) rfl ?_
    refine DL_nil ?_
    refine X_block ?_
    refine X_then ?_
    refine T_region ?_
    first
      | refine TL_q (Qt_add rfl rfl (by omega) (by omega)) rfl ?_
      | refine TL_q (Qt_addw rfl rfl) rfl ?_
    refine TL_q (Qt_move (.int .i64 _) rfl) rfl ?_
    refine TL_nil ?_
    refine X_loop _ (by repeat (first | with_reducible exact agree_refl | refine agree_upd rfl ?_ | refine agree_mix rfl ?_ | refine agree_setAll rfl ?_)) (⟨k + 1, a50, c50, zs ++ [x48.1], x48.2 ++ fp2, [x48.1] ++ ds, rfl, rfl, by omega, map_snoc hk hzs h48, fun z hz => (List.mem_append.1 hz).elim (fun h => (hzd z h).imp id (fun h => List.mem_append_right _ h)) (fun h => .inr (List.mem_append_left _ h))⟩) (by show x34.2.length - (k + 1 : Int).toNat < x34.2.length - (k : Int).toNat; omega) (fun w hw => by
            have h1 : St w0 (datV x48.2 [x48.1] :: datV fp2 ds :: row (.slice a50 (zs ++ [x48.1]).length c50) 27 38 ((zs ++ [x48.1]).flatMap VoteV.list) :: row (.slice x34.1.a x34.2.length x34.1.c) 57 2 (x34.2.flatMap encK) :: BkS.H ⟨⟨now, false, sl, some r, ac⟩, r, es, c, acc, fp, vs⟩ p H) w := Subs.st inferInstance w hw
            exact Subs.st (H' := row (.slice a50 (zs ++ [x48.1]).length c50) 27 38 ((zs ++ [x48.1]).flatMap VoteV.list) :: row (.slice x34.1.a x34.2.length x34.1.c) 57 2 (x34.2.flatMap encK) :: datV (x48.2 ++ fp2) ([x48.1] ++ ds) :: BkS.H ⟨⟨now, false, sl, some r, ac⟩, r, es, c, acc, fp, vs⟩ p H) inferInstance w (St.datAdd h1))
  ·
    have p38 := h38
    try simp only [decide_eq_true_eq, decide_eq_false_iff_not, Bool.not_eq_true', Bool.not_eq_false', Option.isNone_iff_eq_none, ne_eq, Decidable.not_not, Int.not_lt, Int.not_le] at p38
    have hzl : zs.length ≤ 2000 := by have := congrArg List.length hzs; simp [regB] at this; omega
    refine T_exit ?_
    refine X_then_exit ?_
    refine X_loop_exit ?_
    refine X_block_exit ?_
    refine X_then ?_
    refine T_seq ?_
    refine T_seq ?_
    refine T_region ?_
    refine TL_q (Qt_move (.pointer _) rfl) rfl ?_
    refine TL_drop (BkS.H ⟨⟨now, false, sl, some r, ac⟩, r, es, c, acc, fp, vs⟩ p (row (.slice a (zs).length c2) 27 38 ((zs).flatMap VoteV.list) :: datV fp2 ds :: H)) ?_
    refine TL_e rfl (Ef_call (accepted_c (y := ⟨⟨now, false, sl, some r, ac⟩, r, es, c, acc, fp, vs⟩) ho) rfl (fun x54 => ?_))
    refine TL_pure (fun h54 => ?_)
    refine TL_q (Qt_move (.tuple _) rfl) rfl ?_
    refine TL_q (Qt_extract rfl) rfl ?_
    refine TL_q (Qt_extract rfl) rfl ?_
    refine TL_e rfl (Ef_allocN (fun b7 => ?_))
    refine TL_n (Ef_storeN rfl rfl (?_))
    refine TL_q (Qt_assign (.bool _) rfl) rfl ?_
    refine TL_nil ?_
    refine X_then ?_
    refine T_seq ?_
    refine T_region ?_
    refine TL_q (Qt_move (.bool _) rfl) rfl ?_
    refine TL_nil ?_
    refine X_then ?_
    refine T_cond rfl (fun h57 => ?_) (fun h57 => ?_)
    ·
      have p57 := h57
      try simp only [decide_eq_true_eq, decide_eq_false_iff_not, Bool.not_eq_true', Bool.not_eq_false', Option.isNone_iff_eq_none, ne_eq, Decidable.not_not, Int.not_lt, Int.not_le] at p57
      refine T_region ?_
      refine TL_q (Qt_move (.slice _ _ _) rfl) rfl ?_
      refine TL_q (Qt_loadN rfl rfl) rfl ?_
      refine TL_e rfl (Ef_sliceN (m := [x54.1].length) [.agg x54.1.cells] ([x54.1].flatMap VoteV.list) rfl rfl rfl rfl (by simp [Value.cells, VoteV.size]) rfl rfl (fun a60 c60 => ?_))
      refine TL_e rfl (Ef_appendS VoteV.list (sv := .slice _ _ _) (xv := .slice _ _ _) (xs := zs) (ys := [x54.1]) VoteV.list_len VoteV.list_one rfl rfl (by simp; omega) rfl rfl (fun a61 c61 => ?_))
      refine TL_q (Qt_assign (.slice _ _ _) rfl) rfl ?_
      refine TL_nil ?_
      refine X_then ?_
      refine T_seq ?_
      refine T_region ?_
      refine TL_q (Qt_move (.slice _ _ _) rfl) rfl ?_
      refine TL_q (Qt_assign (.slice _ _ _) rfl) rfl ?_
      refine TL_nil ?_
      refine X_then ?_
      refine T_ret ?_
      have htk : x34.2.take k = x34.2 := List.take_of_length_le (by omega)
      rw [htk] at hzs
      have ha : (acc.map fun q => q.2.abs).toList = [x54.1.abs] := by
        rw [h54]
        cases acc with
        | none => cases h57
        | some q => rfl
      have hab : AllB ⟨⟨now, false, sl, some r, ac⟩, r, es, c, acc, fp, vs⟩ (zs ++ [x54.1]) ([x54.1] ++ ds) := ⟨⟨x34.2, h34.1, h34.2, by
        show (zs ++ [x54.1]).map VoteV.abs = _ ++ (_ ++ (acc.map fun q => q.2.abs).toList)
        rw [ha]
        simp [hzs]⟩, fun z hz => (List.mem_append.1 hz).elim (fun h => (hzd z h).imp id (fun h => List.mem_append_right _ h)) (fun h => .inr (List.mem_append_left _ h))⟩
      exact X_ret (⟨a61, c61⟩, zs ++ [x54.1], x54.2 ++ fp2, [x54.1] ++ ds) [_] Try.results25 ⟨rfl, trivial⟩ rfl (fun w hw => by
        have h1 : St w0 (datV x54.2 [x54.1] :: datV fp2 ds :: row (.slice a61 (zs ++ [x54.1]).length c61) 27 38 ((zs ++ [x54.1]).flatMap VoteV.list) :: BkS.H ⟨⟨now, false, sl, some r, ac⟩, r, es, c, acc, fp, vs⟩ p H) w := Subs.st inferInstance w hw
        exact (Subs.st (H' := row (.slice a61 (zs ++ [x54.1]).length c61) 27 38 ((zs ++ [x54.1]).flatMap VoteV.list) :: datV (x54.2 ++ fp2) ([x54.1] ++ ds) :: BkS.H ⟨⟨now, false, sl, some r, ac⟩, r, es, c, acc, fp, vs⟩ p H) inferInstance w (St.datAdd h1)).addPure hab)
    ·
      have p57 := h57
      try simp only [decide_eq_true_eq, decide_eq_false_iff_not, Bool.not_eq_true', Bool.not_eq_false', Option.isNone_iff_eq_none, ne_eq, Decidable.not_not, Int.not_lt, Int.not_le] at p57
      refine T_skip ?_
      refine X_then ?_
      refine T_seq ?_
      refine T_region ?_
      refine TL_q (Qt_move (.slice _ _ _) rfl) rfl ?_
      refine TL_q (Qt_assign (.slice _ _ _) rfl) rfl ?_
      refine TL_nil ?_
      refine X_then ?_
      refine T_ret ?_
      have htk : x34.2.take k = x34.2 := List.take_of_length_le (by omega)
      rw [htk] at hzs
      have ha : (acc.map fun q => q.2.abs).toList = [] := by
        cases acc with
        | none => rfl
        | some q => cases h57
      have hab : AllB ⟨⟨now, false, sl, some r, ac⟩, r, es, c, acc, fp, vs⟩ (zs) (ds) := ⟨⟨x34.2, h34.1, h34.2, by
        show (zs).map VoteV.abs = _ ++ (_ ++ (acc.map fun q => q.2.abs).toList)
        rw [ha]
        simp [hzs]⟩, hzd⟩
      exact X_ret (⟨a, c2⟩, zs, fp2, ds) [_] Try.results25 ⟨rfl, trivial⟩ rfl (fun w hw => (Subs.st (H' := row (.slice a (zs).length c2) 27 38 ((zs).flatMap VoteV.list) :: datV fp2 ds :: BkS.H ⟨⟨now, false, sl, some r, ac⟩, r, es, c, acc, fp, vs⟩ p H) inferInstance w hw).addPure hab)
set_option maxHeartbeats 1000000 in
theorem all_true {w0 : World} {H : List SA} {p r c : Nat} {now : EraV} {sl : Int} {ac : Option Addr} {es : List (Ent EraV VoteV)} {acc : Option (Nat × VoteV)} {fp : List Nat} {vs : List VoteV} (ho : BkS.Ok ⟨⟨now, true, sl, some r, ac⟩, r, es, c, acc, fp, vs⟩) (hin : ∀ e ∈ es, e.k ∈ grid) (hne : es.length ≤ 1000) :
    CT Try.prog w0 (BkS.H ⟨⟨now, true, sl, some r, ac⟩, r, es, c, acc, fp, vs⟩ p H) 25 [.pointer (some ⟨p, 0, none⟩)] (α := AC × List VoteV × List Nat × List VoteV) (fun z => .slice z.1.a z.2.1.length z.1.c) (fun z => pu (AllB ⟨⟨now, true, sl, some r, ac⟩, r, es, c, acc, fp, vs⟩ z.2.1 z.2.2.2) :: row (.slice z.1.a (z.2.1).length z.1.c) 27 38 ((z.2.1).flatMap VoteV.list) :: datV z.2.2.1 z.2.2.2 :: BkS.H ⟨⟨now, true, sl, some r, ac⟩, r, es, c, acc, fp, vs⟩ p H) := by
  refine CT_intro Try.func25 rfl Try.ntmps25 rfl ?_
  refine T_seq ?_
  refine T_region ?_
  refine TL_q (Qt_assign (.slice _ _ _) rfl) rfl ?_
  refine TL_nil ?_
  refine X_then ?_
  refine T_seq ?_
  refine T_seq ?_
  refine T_region ?_
  refine TL_q (Qt_move (.pointer _) rfl) rfl ?_
  refine TL_q (Qt_ptr_nil rfl rfl Try.underlying31) rfl ?_
  refine TL_nil ?_
  refine X_then ?_
  refine T_cond_false rfl (by first | rfl | decide) ?_
  refine T_skip ?_
  refine X_then ?_
  refine T_seq ?_
  refine T_region ?_
  refine TL_q (Qt_assign (.slice _ _ _) rfl) rfl ?_
  refine TL_nil ?_
  refine X_then ?_
  refine T_seq ?_
  refine T_seq ?_
  refine T_region ?_
  refine TL_q (Qt_move (.pointer _) rfl) rfl ?_
  refine TL_q (Qt_nilCheck rfl) rfl ?_
  refine TL_q (Qt_fieldAddr 2 rfl rfl) rfl ?_
  refine TL_q (Qt_load1 rfl) rfl ?_
  refine TL_nil ?_
  refine X_then ?_
  refine T_cond_true rfl (by first | rfl | decide) ?_
  refine T_draw (BkS.H ⟨⟨now, true, sl, some r, ac⟩, r, es, c, acc, fp, vs⟩ p H) [(0, true), (1, true), (2, true), (3, true), (4, true), (5, true), (6, true), (7, true), (8, true), (9, true), (10, true), (11, true), (12, false), (13, false), (14, true)] (by kernel_rfl) (by kernel_rfl) rfl (by kernel_rfl) (Subs.st inferInstance) (fun hns0 => ?_)
  refine DL_q hns0 rfl (Qt_move (.slice _ _ _) rfl) rfl ?_
  refine DL_q hns0 rfl (Qt_move (.pointer _) rfl) rfl ?_
  refine DL_q hns0 rfl (Qt_nilCheck rfl) rfl ?_
  refine DL_q hns0 rfl (Qt_fieldAddr 0 rfl rfl) rfl ?_
  refine DL_q hns0 rfl (Qt_fieldAddr 0 rfl rfl) rfl ?_
  refine DL_q hns0 rfl (Qt_load1 rfl) rfl ?_
  refine DL_q hns0 rfl (Qt_move (.pointer _) rfl) rfl ?_
  refine DL_q hns0 rfl (Qt_nilCheck rfl) rfl ?_
  refine DL_q hns0 rfl (Qt_fieldAddr 0 rfl rfl) rfl ?_
  refine DL_q hns0 rfl (Qt_fieldAddr 1 rfl rfl) rfl ?_
  refine DL_q hns0 rfl (Qt_load1 rfl) rfl ?_
  refine DL_q hns0 rfl (Qt_build [(0, (.int .i64 _)), (1, (.int .i64 _)), (2, (.int .i64 _))] rfl (by kernel_rfl)) rfl ?_
  refine DL_e rfl rfl (Ef_sliceN (m := [(regV (now.view, now.reg))].length) [.agg (regV (now.view, now.reg)).cells] ([(regV (now.view, now.reg))].flatMap VoteV.list) rfl rfl rfl rfl (by simp [Value.cells, VoteV.size]) rfl rfl (fun a27 c27 => ⟨(Subs.st inferInstance), ?_⟩))
  refine DL_e rfl rfl (Ef_appendS VoteV.list (sv := .slice _ _ _) (xv := .slice _ _ _) (xs := []) (ys := [(regV (now.view, now.reg))]) VoteV.list_len VoteV.list_one rfl rfl (by simp) rfl rfl (fun a28 c28 => ⟨(Subs.st inferInstance), ?_⟩))
  simp only [List.nil_append]
  refine DL_q hns0 rfl (Qt_assign (.slice _ _ _) rfl) rfl ?_
  refine DL_nil ?_
  refine X_then ?_
  refine T_seq ?_
  refine T_region ?_
  refine TL_q (Qt_move (.pointer _) rfl) rfl ?_
  refine TL_q (Qt_nilCheck rfl) rfl ?_
  refine TL_q (Qt_fieldAddr 4 rfl rfl) rfl ?_
  refine TL_q (Qt_load1 rfl) rfl ?_
  refine TL_e rfl (Ef_call (keysF_c (r := r)) rfl (fun x33 => ?_))
  refine TL_e rfl (Ef_call (sortedK_c (b := x33) (r := r) (c := c) (es := es) ho.good hin (by omega)) rfl (fun x34 => ?_))
  refine TL_pure (fun h34 => ?_)
  have hkl : x34.2.length ≤ 1000 := by have := h34.1.length_eq; simp at this; omega
  refine TL_q (Qt_assign (.slice _ _ _) rfl) rfl ?_
  refine TL_nil ?_
  refine X_then ?_
  refine T_seq ?_
  refine T_seq ?_
  refine T_region ?_
  refine TL_q (Qt_move (.slice _ _ _) rfl) rfl ?_
  refine TL_q (Qt_len_slice rfl Try.underlying82) rfl ?_
  refine TL_q (Qt_move (.int .i64 _) rfl) rfl ?_
  refine TL_nil ?_
  refine X_then ?_
  refine T_block ?_
  refine T_loop [3, 6, 37, 38, 39, 40, 41, 42, 43, 44, 45, 46, 47, 48, 49, 50, 51] [37, 3] (fun us H' => ∃ (k : Nat) (a : Option Addr) (c2 : Nat) (zs : List VoteV) (fp2 : List Nat) (ds : List VoteV), us = [.int .i64 (k : Int), .slice a zs.length c2] ∧ row (.slice a (zs).length c2) 27 38 ((zs).flatMap VoteV.list) :: row (.slice x34.1.a x34.2.length x34.1.c) 57 2 (x34.2.flatMap encK) :: datV fp2 ds :: BkS.H ⟨⟨now, true, sl, some r, ac⟩, r, es, c, acc, fp, vs⟩ p H = H' ∧ k ≤ x34.2.length ∧ (zs.map VoteV.abs = (regB true now).map VoteV.abs ++ (x34.2.take k).map (oneD es)) ∧ (∀ z ∈ zs, z = (regV (now.view, now.reg)) ∨ z ∈ ds)) (fun us => match us with | .int _ i :: _ => x34.2.length - i.toNat | _ => 0) ⟨0, a28, c28, [(regV (now.view, now.reg))], [], [], rfl, rfl, by omega, by simp [regB], by simp⟩ (fun w hw => by
        have h0 : St w0 (row (.slice a28 ([(regV (now.view, now.reg))]).length c28) 27 38 (([(regV (now.view, now.reg))]).flatMap VoteV.list) :: row (.slice x34.1.a x34.2.length x34.1.c) 57 2 (x34.2.flatMap encK) :: BkS.H ⟨⟨now, true, sl, some r, ac⟩, r, es, c, acc, fp, vs⟩ p H) w := Subs.st inferInstance w hw
        exact Subs.st (H' := row (.slice a28 ([(regV (now.view, now.reg))]).length c28) 27 38 (([(regV (now.view, now.reg))]).flatMap VoteV.list) :: row (.slice x34.1.a x34.2.length x34.1.c) 57 2 (x34.2.flatMap encK) :: datV [] [] :: BkS.H ⟨⟨now, true, sl, some r, ac⟩, r, es, c, acc, fp, vs⟩ p H) inferInstance w (St.datNil h0)) ?_
  rintro τ0 _ _  ⟨k, a, c2, zs, fp2, ds, rfl, rfl, hk0, hzs, hzd⟩ _
  refine T_seq ?_
  refine T_region ?_
  refine TL_q (Qt_lss rfl rfl) rfl ?_
  refine TL_nil ?_
  refine X_then ?_
  refine T_seq ?_
  refine T_cond rfl (fun h38 => ?_) (fun h38 => ?_)
  ·
    have p38 := h38
    try simp only [decide_eq_true_eq, decide_eq_false_iff_not, Bool.not_eq_true', Bool.not_eq_false', Option.isNone_iff_eq_none, ne_eq, Decidable.not_not, Int.not_lt, Int.not_le] at p38
    have hk : k < x34.2.length := by omega
    have hzl : zs.length ≤ 1 + k := by have := congrArg List.length hzs; simp [regB] at this; omega
    refine T_skip ?_
    refine X_then ?_
    refine T_seq ?_
    refine T_block ?_
    refine T_seq ?_
    refine T_region ?_
    refine TL_q (Qt_indexN rfl rfl (by omega) (by omega)) rfl ?_
    refine TL_q (Qt_loadKey (k := k) rfl hk) rfl ?_
    refine TL_e rfl (Ef_allocN (fun b6 => ?_))
    refine TL_n (Ef_storeN rfl rfl (?_))
    refine TL_nil ?_
    refine X_then ?_
    refine T_draw (blk b6 (.cells (toE x34.2[k]).cells 57 (0, 0)) :: BkS.H ⟨⟨now, true, sl, some r, ac⟩, r, es, c, acc, fp, vs⟩ p H) [(0, true), (1, true), (2, true), (3, true), (4, true), (5, true), (6, true), (7, false), (8, false), (9, false), (10, true)] (by kernel_rfl) (by kernel_rfl) rfl (by kernel_rfl) (Subs.st inferInstance) (fun hns1 => ?_)
    refine DL_q hns1 rfl (Qt_move (.slice _ _ _) rfl) rfl ?_
    refine DL_q hns1 rfl (Qt_move (.pointer _) rfl) rfl ?_
    refine DL_q hns1 rfl (Qt_nilCheck rfl) rfl ?_
    refine DL_q hns1 rfl (Qt_fieldAddr 4 rfl rfl) rfl ?_
    refine DL_q hns1 rfl (Qt_load1 rfl) rfl ?_
    refine DL_q hns1 rfl (Qt_loadN rfl rfl) rfl ?_
    refine DL_q hns1 rfl (Qt_lookup1 (key := (toE x34.2[k])) (VoteV.zero) rfl rfl Try.underlying55 vote_zero) rfl ?_
    have hmz := getD_mem ho.there (toE x34.2[k])
    have hsm : SmallV ((getE es (toE x34.2[k])).getD VoteV.zero).abs := by
      rcases List.mem_cons.1 hmz with h | h
      · rw [h]; exact small_zero
      · exact ho.small _ h
    have rvs : RdVs w0 (datV fp vs :: H) (VoteV.zero :: vs) := rd_zero
    have rb := rvs.b _ hmz
    have rc := rvs.c _ hmz
    have re := rvs.e _ hmz
    refine DL_e rfl rfl (Ef_call (copied_c hsm) rfl (fun x48 => ⟨(Subs.st inferInstance), ?_⟩))
    refine DL_pure (fun h48 => ?_)
    refine DL_e rfl rfl (Ef_sliceN (m := [x48.1].length) [.agg x48.1.cells] ([x48.1].flatMap VoteV.list) rfl rfl rfl rfl (by simp [Value.cells, VoteV.size]) rfl rfl (fun a49 c49 => ⟨(Subs.st inferInstance), ?_⟩))
    refine DL_e rfl rfl (Ef_appendS VoteV.list (sv := .slice _ _ _) (xv := .slice _ _ _) (xs := zs) (ys := [x48.1]) VoteV.list_len VoteV.list_one rfl rfl (by simp; omega) rfl rfl (fun a50 c50 => ⟨(Subs.st inferInstance), ?_⟩))
    refine DL_q hns1 rfl (Qt_assign (.slice _ _ _) rfl) rfl ?_
    refine DL_nil ?_
    refine X_block ?_
    refine X_then ?_
    refine T_region ?_
    first
      | refine TL_q (Qt_add rfl rfl (by omega) (by omega)) rfl ?_
      | refine TL_q (Qt_addw rfl rfl) rfl ?_
    refine TL_q (Qt_move (.int .i64 _) rfl) rfl ?_
    refine TL_nil ?_
    refine X_loop _ (by repeat (first | with_reducible exact agree_refl | refine agree_upd rfl ?_ | refine agree_mix rfl ?_ | refine agree_setAll rfl ?_)) (⟨k + 1, a50, c50, zs ++ [x48.1], x48.2 ++ fp2, [x48.1] ++ ds, rfl, rfl, by omega, map_snoc hk hzs h48, fun z hz => (List.mem_append.1 hz).elim (fun h => (hzd z h).imp id (fun h => List.mem_append_right _ h)) (fun h => .inr (List.mem_append_left _ h))⟩) (by show x34.2.length - (k + 1 : Int).toNat < x34.2.length - (k : Int).toNat; omega) (fun w hw => by
            have h1 : St w0 (datV x48.2 [x48.1] :: datV fp2 ds :: row (.slice a50 (zs ++ [x48.1]).length c50) 27 38 ((zs ++ [x48.1]).flatMap VoteV.list) :: row (.slice x34.1.a x34.2.length x34.1.c) 57 2 (x34.2.flatMap encK) :: BkS.H ⟨⟨now, true, sl, some r, ac⟩, r, es, c, acc, fp, vs⟩ p H) w := Subs.st inferInstance w hw
            exact Subs.st (H' := row (.slice a50 (zs ++ [x48.1]).length c50) 27 38 ((zs ++ [x48.1]).flatMap VoteV.list) :: row (.slice x34.1.a x34.2.length x34.1.c) 57 2 (x34.2.flatMap encK) :: datV (x48.2 ++ fp2) ([x48.1] ++ ds) :: BkS.H ⟨⟨now, true, sl, some r, ac⟩, r, es, c, acc, fp, vs⟩ p H) inferInstance w (St.datAdd h1))
  ·
    have p38 := h38
    try simp only [decide_eq_true_eq, decide_eq_false_iff_not, Bool.not_eq_true', Bool.not_eq_false', Option.isNone_iff_eq_none, ne_eq, Decidable.not_not, Int.not_lt, Int.not_le] at p38
    have hzl : zs.length ≤ 2000 := by have := congrArg List.length hzs; simp [regB] at this; omega
    refine T_exit ?_
    refine X_then_exit ?_
    refine X_loop_exit ?_
    refine X_block_exit ?_
    refine X_then ?_
    refine T_seq ?_
    refine T_seq ?_
    refine T_region ?_
    refine TL_q (Qt_move (.pointer _) rfl) rfl ?_
    refine TL_drop (BkS.H ⟨⟨now, true, sl, some r, ac⟩, r, es, c, acc, fp, vs⟩ p (row (.slice a (zs).length c2) 27 38 ((zs).flatMap VoteV.list) :: datV fp2 ds :: H)) ?_
    refine TL_e rfl (Ef_call (accepted_c (y := ⟨⟨now, true, sl, some r, ac⟩, r, es, c, acc, fp, vs⟩) ho) rfl (fun x54 => ?_))
    refine TL_pure (fun h54 => ?_)
    refine TL_q (Qt_move (.tuple _) rfl) rfl ?_
    refine TL_q (Qt_extract rfl) rfl ?_
    refine TL_q (Qt_extract rfl) rfl ?_
    refine TL_e rfl (Ef_allocN (fun b7 => ?_))
    refine TL_n (Ef_storeN rfl rfl (?_))
    refine TL_q (Qt_assign (.bool _) rfl) rfl ?_
    refine TL_nil ?_
    refine X_then ?_
    refine T_seq ?_
    refine T_region ?_
    refine TL_q (Qt_move (.bool _) rfl) rfl ?_
    refine TL_nil ?_
    refine X_then ?_
    refine T_cond rfl (fun h57 => ?_) (fun h57 => ?_)
    ·
      have p57 := h57
      try simp only [decide_eq_true_eq, decide_eq_false_iff_not, Bool.not_eq_true', Bool.not_eq_false', Option.isNone_iff_eq_none, ne_eq, Decidable.not_not, Int.not_lt, Int.not_le] at p57
      refine T_region ?_
      refine TL_q (Qt_move (.slice _ _ _) rfl) rfl ?_
      refine TL_q (Qt_loadN rfl rfl) rfl ?_
      refine TL_e rfl (Ef_sliceN (m := [x54.1].length) [.agg x54.1.cells] ([x54.1].flatMap VoteV.list) rfl rfl rfl rfl (by simp [Value.cells, VoteV.size]) rfl rfl (fun a60 c60 => ?_))
      refine TL_e rfl (Ef_appendS VoteV.list (sv := .slice _ _ _) (xv := .slice _ _ _) (xs := zs) (ys := [x54.1]) VoteV.list_len VoteV.list_one rfl rfl (by simp; omega) rfl rfl (fun a61 c61 => ?_))
      refine TL_q (Qt_assign (.slice _ _ _) rfl) rfl ?_
      refine TL_nil ?_
      refine X_then ?_
      refine T_seq ?_
      refine T_region ?_
      refine TL_q (Qt_move (.slice _ _ _) rfl) rfl ?_
      refine TL_q (Qt_assign (.slice _ _ _) rfl) rfl ?_
      refine TL_nil ?_
      refine X_then ?_
      refine T_ret ?_
      have htk : x34.2.take k = x34.2 := List.take_of_length_le (by omega)
      rw [htk] at hzs
      have ha : (acc.map fun q => q.2.abs).toList = [x54.1.abs] := by
        rw [h54]
        cases acc with
        | none => cases h57
        | some q => rfl
      have hab : AllB ⟨⟨now, true, sl, some r, ac⟩, r, es, c, acc, fp, vs⟩ (zs ++ [x54.1]) ([x54.1] ++ ds) := ⟨⟨x34.2, h34.1, h34.2, by
        show (zs ++ [x54.1]).map VoteV.abs = _ ++ (_ ++ (acc.map fun q => q.2.abs).toList)
        rw [ha]
        simp [hzs]⟩, fun z hz => (List.mem_append.1 hz).elim (fun h => (hzd z h).imp id (fun h => List.mem_append_right _ h)) (fun h => .inr (List.mem_append_left _ h))⟩
      exact X_ret (⟨a61, c61⟩, zs ++ [x54.1], x54.2 ++ fp2, [x54.1] ++ ds) [_] Try.results25 ⟨rfl, trivial⟩ rfl (fun w hw => by
        have h1 : St w0 (datV x54.2 [x54.1] :: datV fp2 ds :: row (.slice a61 (zs ++ [x54.1]).length c61) 27 38 ((zs ++ [x54.1]).flatMap VoteV.list) :: BkS.H ⟨⟨now, true, sl, some r, ac⟩, r, es, c, acc, fp, vs⟩ p H) w := Subs.st inferInstance w hw
        exact (Subs.st (H' := row (.slice a61 (zs ++ [x54.1]).length c61) 27 38 ((zs ++ [x54.1]).flatMap VoteV.list) :: datV (x54.2 ++ fp2) ([x54.1] ++ ds) :: BkS.H ⟨⟨now, true, sl, some r, ac⟩, r, es, c, acc, fp, vs⟩ p H) inferInstance w (St.datAdd h1)).addPure hab)
    ·
      have p57 := h57
      try simp only [decide_eq_true_eq, decide_eq_false_iff_not, Bool.not_eq_true', Bool.not_eq_false', Option.isNone_iff_eq_none, ne_eq, Decidable.not_not, Int.not_lt, Int.not_le] at p57
      refine T_skip ?_
      refine X_then ?_
      refine T_seq ?_
      refine T_region ?_
      refine TL_q (Qt_move (.slice _ _ _) rfl) rfl ?_
      refine TL_q (Qt_assign (.slice _ _ _) rfl) rfl ?_
      refine TL_nil ?_
      refine X_then ?_
      refine T_ret ?_
      have htk : x34.2.take k = x34.2 := List.take_of_length_le (by omega)
      rw [htk] at hzs
      have ha : (acc.map fun q => q.2.abs).toList = [] := by
        cases acc with
        | none => rfl
        | some q => cases h57
      have hab : AllB ⟨⟨now, true, sl, some r, ac⟩, r, es, c, acc, fp, vs⟩ (zs) (ds) := ⟨⟨x34.2, h34.1, h34.2, by
        show (zs).map VoteV.abs = _ ++ (_ ++ (acc.map fun q => q.2.abs).toList)
        rw [ha]
        simp [hzs]⟩, hzd⟩
      exact X_ret (⟨a, c2⟩, zs, fp2, ds) [_] Try.results25 ⟨rfl, trivial⟩ rfl (fun w hw => (Subs.st (H' := row (.slice a (zs).length c2) 27 38 ((zs).flatMap VoteV.list) :: datV fp2 ds :: BkS.H ⟨⟨now, true, sl, some r, ac⟩, r, es, c, acc, fp, vs⟩ p H) inferInstance w hw).addPure hab)
theorem all_c {w0 : World} {H : List SA} {p : Nat} {y : BkS} (ho : y.Ok) (hin : ∀ e ∈ y.es, e.k ∈ grid) (hne : y.es.length ≤ 1000) :
    CT Try.prog w0 (y.H p H) 25 [.pointer (some ⟨p, 0, none⟩)] (α := AC × List VoteV × List Nat × List VoteV) (fun z => .slice z.1.a z.2.1.length z.1.c) (fun z => pu (AllB y z.2.1 z.2.2.2) :: row (.slice z.1.a (z.2.1).length z.1.c) 27 38 ((z.2.1).flatMap VoteV.list) :: datV z.2.2.1 z.2.2.2 :: y.H p H) := by
  obtain ⟨⟨now, en, sl, wr, ac⟩, r, es, c, acc, fp, vs⟩ := y
  obtain rfl : wr = some r := ho.wrote
  cases en with
  | false => exact all_false ho hin hne
  | true => exact all_true ho hin hne
end Go.Proofs.Ytdjbhpdfkopdgaa
