/- Walks of package logs: Open. -/
import Derived.Test.YtgfbdcjamalhhaaGreatDoorLu
namespace Go.Proofs.YtgfbdcjamalhhaaGreatDoor
open Go.RowKit Go.Sx
set_option maxRecDepth 100000
set_option linter.unusedSimpArgs false
set_option linter.unusedVariables false
theorem names_get {pre : ByteArray} (ns : List Nat) (k : Nat) (hk : k < ns.length) : ((ns.map (nmB pre)).map encS)[k]? = some (.string (nmB pre ns[k])) := by
  rw [List.map_map, List.getElem?_map, List.getElem?_eq_getElem hk]; rfl
theorem take_app {α : Type} (l : List α) (k : Nat) (hk : k < l.length) : l.take k ++ [l[k]] = l.take (k + 1) := by
  rw [List.take_add_one, List.getElem?_eq_getElem hk]; rfl
theorem open_mid {w0 w : World} {H : List SA} {lp p : Nat} {pre : ByteArray} {ga : Option Addr} {gc : Nat} {ns m : List Nat} (hp : ns.Perm m) (h : St w0 (row (.slice ga ns.length gc) 3 1 (m.flatMap encN) :: lblk lp p pre (⟨ga, gc, ns, 0, 1, false⟩ : LS) :: H) w) :
    St w0 (row (.slice ga m.length gc) 3 1 (m.flatMap encN) :: lblk lp p pre (⟨ga, gc, m, 0, 1, false⟩ : LS) :: H) w := by
  have h2 : St w0 (row (.slice ga ns.length gc) 3 1 (m.flatMap encN) :: blk lp (.cells (LogV.mk (some ⟨p, 0, none⟩) pre ⟨ga, ns.length, gc⟩ ((0 : Nat) : Int) ((1 : Nat) : Int) false).cells 101 (0, 0)) :: H) w := h
  rw [hp.length_eq] at h2
  exact h2
theorem open_step {w0 w : World} {H : List SA} {lp p n : Nat} {pre : ByteArray} {t : LS} {fs : Nat → Nat} {rc : Nat → List (List UInt8)} {all o : List BS} {fa fo : List Nat} {a : Option Addr} {c : Nat}
    (h : St w0 (row (.slice a (all ++ o).length c) 30 1 ((all ++ o).map BS.val) :: dat fa ⟨all, [], []⟩ :: dat fo ⟨o, [], []⟩ :: blk lp (.cells (LogV.mk (some ⟨p, 0, none⟩) pre ⟨t.ga, t.segs.length, t.gc⟩ ((recsB (fs n) (rc n)).length : Int) ((scanT t (fs n) (rc n).length).nx : Int) (scanT t (fs n) (rc n).length).bg).cells 101 (0, 0)) :: H) w) :
    St w0 (row (.slice a (all ++ o).length c) 30 1 ((all ++ o).map BS.val) :: dat (fa ++ fo) ⟨all ++ o, [], []⟩ :: lblk lp p pre (segT fs rc t n) :: H) w := by
  have h1 : St w0 (dat fa ⟨all, [], []⟩ :: dat fo ⟨o, [], []⟩ :: row (.slice a (all ++ o).length c) 30 1 ((all ++ o).map BS.val) :: lblk lp p pre (segT fs rc t n) :: H) w := Subs.st (H := row (.slice a (all ++ o).length c) 30 1 ((all ++ o).map BS.val) :: dat fa ⟨all, [], []⟩ :: dat fo ⟨o, [], []⟩ :: lblk lp p pre (segT fs rc t n) :: H) inferInstance w h
  have h2 : St w0 (dat (fa ++ fo) ⟨all ++ o, [], []⟩ :: row (.slice a (all ++ o).length c) 30 1 ((all ++ o).map BS.val) :: lblk lp p pre (segT fs rc t n) :: H) w := h1.datAdd
  exact Subs.st inferInstance w h2
theorem flat_le (rc : Nat → List (List UInt8)) (m : List Nat) (k : Nat) : ((m.take k).flatMap rc).length ≤ (m.flatMap rc).length := by
  conv => rhs; rw [← List.take_append_drop k m, List.flatMap_append, List.length_append]
  omega
theorem flat_mem (rc : Nat → List (List UInt8)) {m : List Nat} {n : Nat} (h : n ∈ m) : (rc n).length ≤ (m.flatMap rc).length := by
  induction m with
  | nil => cases h
  | cons x m ih =>
    rw [List.flatMap_cons, List.length_append]
    rcases List.mem_cons.1 h with rfl | h
    · omega
    · have := ih h; omega
attribute [local irreducible] toldB recsB nmB nxS bgS runS namesE
theorem open_start {w0 w : World} {p b29 : Nat} {s : DS} {H : List SA} {pre : ByteArray} {ga : Option Addr} {gc : Nat} {m : List Nat} {fs : Nat → Nat} {rc : Nat → List (List UInt8)} (h : St w0 (lblk b29 p pre (⟨ga, gc, m, 0, 1, false⟩ : LS) :: row (.slice ga m.length gc) 3 1 (m.flatMap encN) :: DS.H p s H) w) :
    St w0 (row (.slice none ([] : List BS).length 0) 30 1 (([] : List BS).map BS.val) :: dat [] ⟨[], [], []⟩ :: lblk b29 p pre (runS fs rc (m.take 0) (⟨ga, gc, m, 0, 1, false⟩ : LS)) :: row (.slice ga m.length gc) 3 1 (m.flatMap encN) :: DS.H p s H) w := by
  rw [show runS fs rc (m.take 0) (⟨ga, gc, m, 0, 1, false⟩ : LS) = (⟨ga, gc, m, 0, 1, false⟩ : LS) from runS_0 fs rc m _]
  have h1 := (h.addNil 30 1)
  have h2 : St w0 (dat [] ⟨[], [], []⟩ :: row (.slice none 0 0) 30 1 [] :: lblk b29 p pre (⟨ga, gc, m, 0, 1, false⟩ : LS) :: row (.slice ga m.length gc) 3 1 (m.flatMap encN) :: DS.H p s H) w := h1.datNil
  exact Subs.st (H := dat [] ⟨[], [], []⟩ :: row (.slice none 0 0) 30 1 [] :: lblk b29 p pre (⟨ga, gc, m, 0, 1, false⟩ : LS) :: row (.slice ga m.length gc) 3 1 (m.flatMap encN) :: DS.H p s H) (H' := row (.slice none 0 0) 30 1 [] :: dat [] ⟨[], [], []⟩ :: lblk b29 p pre (⟨ga, gc, m, 0, 1, false⟩ : LS) :: row (.slice ga m.length gc) 3 1 (m.flatMap encN) :: DS.H p s H) inferInstance w h2
set_option maxHeartbeats 1000000 in
theorem openG_c {w0 : World} {H : List SA} {p : Nat} {s : DS} {M K : Nat} (hok : s.Ok M K) (hM : M ≤ 1000000) (hK : K ≤ 1000000000) {pre : ByteArray} (hs : pre.size ≤ 1000) (hsm : pre.size ≤ maxLen) (hf : fineB pre = true) (hkz : ∀ e ∈ s.e2, e.k.size ≤ maxLen) {ns m : List Nat} (hnm : namesE s.e2 = ns.map (nmB pre)) (h1 : ∀ n ∈ ns, 1 ≤ n ∧ n < 100) (hp : ns.Perm m) (hsrt : m.Pairwise (· ≤ ·)) (hnl : ns.length ≤ 1000) {fs : Nat → Nat} {rc : Nat → List (List UInt8)} (hd : ∀ n ∈ m, (oldE s.e2 (nmB pre n)).l = recsB (fs n) (rc n) ∧ 1 ≤ fs n ∧ fs n + (rc n).length ≤ 1000000 ∧ ∀ l ∈ rc n, l.length ≤ 1000) (hoS : ∀ ga gc, okS fs rc m (⟨ga, gc, m, 0, 1, false⟩ : LS)) (htot : (m.flatMap rc).length ≤ 10000) :
    CT Tryz.prog w0 (DS.H p s H) 9 [.pointer (some ⟨p, 0, none⟩), .string pre] (α := Nat × AC × List BS × List Nat) (fun y => .tuple #[.pointer (some ⟨y.1, 0, none⟩), .slice y.2.1.a y.2.2.1.length y.2.1.c, .int .i64 0]) (fun y => pu (y.2.2.1.map BS.l = m.flatMap rc) :: row (.slice y.2.1.a (y.2.2.1).length y.2.1.c) 30 1 ((y.2.2.1).map BS.val) :: dat y.2.2.2 ⟨y.2.2.1, [], []⟩ :: DS.H p s H) := by
  refine CT_intro Tryz.func9 rfl Tryz.ntmps9 rfl ?_
  refine T_seq ?_
  refine T_region ?_
  refine TL_q (Qt_assign (.pointer _) rfl) rfl ?_
  refine TL_q (Qt_assign (.slice _ _ _) rfl) rfl ?_
  refine TL_q (Qt_assign (.int .i64 _) rfl) rfl ?_
  refine TL_nil ?_
  refine X_then ?_
  refine T_seq ?_
  refine T_block ?_
  refine T_seq ?_
  refine T_region ?_
  refine TL_q (Qt_move (.pointer _) rfl) rfl ?_
  refine TL_q (Qt_ptr_nil rfl rfl Tryz.underlying24) rfl ?_
  refine TL_q (Qt_assign (.bool _) rfl) rfl ?_
  refine TL_nil ?_
  refine X_then ?_
  refine T_cond_false rfl (by first | rfl | decide) ?_
  refine T_seq ?_
  refine T_region ?_
  refine TL_q (Qt_move (.string _) rfl) rfl ?_
  refine TL_e rfl (Ef_call (fine_c hsm) rfl (fun x24 => ?_))
  rw [hf]
  refine TL_q (Qt_not rfl) rfl ?_
  refine TL_q (Qt_assign (.bool _) rfl) rfl ?_
  refine TL_nil ?_
  refine X_then ?_
  refine T_cond_false rfl (by first | rfl | decide) ?_
  refine T_skip ?_
  refine X_block ?_
  refine X_then ?_
  refine T_seq ?_
  refine T_region ?_
  refine TL_q (Qt_move (.pointer _) rfl) rfl ?_
  refine TL_q (Qt_move (.string _) rfl) rfl ?_
  refine TL_q (Qt_build [(0, (.pointer _)), (1, (.string _)), (4, (.int .u64 _))] rfl (by kernel_rfl)) rfl ?_
  refine TL_e rfl (Ef_boxN rfl (fun b29 => ?_))
  refine TL_q (Qt_assign (.pointer _) rfl) rfl ?_
  refine TL_nil ?_
  refine X_then ?_
  refine T_seq ?_
  refine T_seq ?_
  refine T_region ?_
  refine TL_q (Qt_move (.pointer _) rfl) rfl ?_
  refine TL_conv (fun w hw => (Subs.st inferInstance w hw : St w0 (DS.H p s (lblk b29 p pre ⟨none, 0, [], 0, 1, false⟩ :: H)) w)) ?_
  refine TL_e rfl (Ef_call (dnames_c (s := s) hok hM hkz) rfl (fun x31 => ?_))
  rw [hnm, show (ns.map (nmB pre)).length = ns.length from List.length_map ..]
  refine TL_q (Qt_len_slice rfl Tryz.underlying102) rfl ?_
  refine TL_q (Qt_move (.int .i64 _) rfl) rfl ?_
  refine TL_nil ?_
  refine X_then ?_
  refine T_block ?_
  refine T_loop [9, 10, 33, 34, 35, 36, 37, 38, 39, 40, 41, 42, 43, 44, 45, 46, 47, 48, 49, 50, 51, 52] [33] (fun us H' => ∃ (k : Nat) (ga : Option Addr) (gc : Nat), us = [.int .i64 (k : Int)] ∧ lblk b29 p pre (⟨ga, gc, (ns.take k), 0, 1, false⟩ : LS) :: row (.slice ga (ns.take k).length gc) 3 1 ((ns.take k).flatMap encN) :: row (.slice x31.a ns.length x31.c) 9 1 ((ns.map (nmB pre)).map encS) :: DS.H p s H = H' ∧ k ≤ ns.length) (fun us => match us with | .int _ i :: _ => ns.length - i.toNat | _ => 0) ⟨0, none, 0, rfl, rfl, by omega⟩ (fun w hw => by
        have h1 := (Subs.st inferInstance w hw : St w0 (lblk b29 p pre ⟨none, 0, [], 0, 1, false⟩ :: row (.slice x31.a ns.length x31.c) 9 1 ((ns.map (nmB pre)).map encS) :: DS.H p s H) w).addNil 3 1
        exact (Subs.st (H := row (.slice none 0 0) 3 1 [] :: lblk b29 p pre ⟨none, 0, [], 0, 1, false⟩ :: row (.slice x31.a ns.length x31.c) 9 1 ((ns.map (nmB pre)).map encS) :: DS.H p s H) (H' := lblk b29 p pre ⟨none, 0, [], 0, 1, false⟩ :: row (.slice none 0 0) 3 1 [] :: row (.slice x31.a ns.length x31.c) 9 1 ((ns.map (nmB pre)).map encS) :: DS.H p s H) inferInstance w h1)) ?_
  rintro τ0 _ _  ⟨k, ga, gc, rfl, rfl, hk0⟩ _
  refine T_seq ?_
  refine T_region ?_
  refine TL_q (Qt_lss rfl rfl) rfl ?_
  refine TL_nil ?_
  refine X_then ?_
  refine T_seq ?_
  refine T_cond rfl (fun h34 => ?_) (fun h34 => ?_)
  ·
    have p34 := h34
    try simp only [decide_eq_true_eq, decide_eq_false_iff_not, Bool.not_eq_true', Bool.not_eq_false', Option.isNone_iff_eq_none, ne_eq, Decidable.not_not, Int.not_lt, Int.not_le] at p34
    have hk : k < ns.length := by omega
    refine T_skip ?_
    refine X_then ?_
    refine T_seq ?_
    refine T_block ?_
    refine T_seq ?_
    refine T_region ?_
    refine TL_q (Qt_indexR rfl rfl (by omega) (by simp; omega)) rfl ?_
    refine TL_q (Qt_loadR (.string (nmB pre ns[k])) rfl (names_get ns k hk)) rfl ?_
    refine TL_q (Qt_assign (.string _) rfl) rfl ?_
    refine TL_nil ?_
    refine X_then ?_
    refine T_seq ?_
    refine T_region ?_
    refine TL_q (Qt_move (.string _) rfl) rfl ?_
    refine TL_q (Qt_move (.string _) rfl) rfl ?_
    refine TL_e rfl (Ef_call (number_c hs (h1 _ (List.getElem_mem hk)).1 (h1 _ (List.getElem_mem hk)).2) rfl (fun x39 => ?_))
    refine TL_q (Qt_assign (.int .i64 _) rfl) rfl ?_
    refine TL_nil ?_
    refine X_then ?_
    refine T_seq ?_
    refine T_region ?_
    refine TL_q (Qt_move (.int .i64 _) rfl) rfl ?_
    refine TL_q (Qt_gtr rfl rfl) rfl ?_
    refine TL_nil ?_
    refine X_then ?_
    refine T_cond rfl (fun h41 => ?_) (fun h41 => ?_)
    ·
      have p41 := h41
      try simp only [decide_eq_true_eq, decide_eq_false_iff_not, Bool.not_eq_true', Bool.not_eq_false', Option.isNone_iff_eq_none, ne_eq, Decidable.not_not, Int.not_lt, Int.not_le] at p41
      refine T_region ?_
      refine TL_q (Qt_move (.pointer _) rfl) rfl ?_
      refine TL_q (Qt_move (.pointer _) rfl) rfl ?_
      refine TL_q (Qt_nilCheck rfl) rfl ?_
      refine TL_q (Qt_fieldAddr 2 rfl rfl) rfl ?_
      refine TL_q (Qt_load1 rfl) rfl ?_
      refine TL_q (Qt_move (.int .i64 _) rfl) rfl ?_
      refine TL_e rfl (Ef_sliceN (m := ([ns[k]] : List Nat).length) [.int .i64 ((ns[k] : Nat) : Int)] (([ns[k]] : List Nat).flatMap encN) rfl rfl rfl rfl (by simp [Value.cells]) rfl rfl (fun a48 c48 => ?_))
      refine TL_e rfl (Ef_appendS encN (sv := .slice _ _ _) (xv := .slice _ _ _) (xs := ns.take k) (ys := ([ns[k]] : List Nat)) (fun _ => rfl) (fun _ => rfl) rfl rfl (by simp; omega) rfl rfl (fun a49 c49 => ?_))
      rw [take_app ns k hk]
      refine TL_q (Qt_nilCheck rfl) rfl ?_
      refine TL_q (Qt_fieldAddr 2 rfl rfl) rfl ?_
      refine TL_n (Ef_store1 (.slice _ _ _) rfl rfl (?_))
      refine TL_nil ?_
      refine X_block ?_
      refine X_then ?_
      refine T_region ?_
      first
        | refine TL_q (Qt_add rfl rfl (by omega) (by omega)) rfl ?_
        | refine TL_q (Qt_addw rfl rfl) rfl ?_
      refine TL_q (Qt_move (.int .i64 _) rfl) rfl ?_
      refine TL_nil ?_
      apply X_loop
      case ha => exact (by repeat (first | with_reducible exact agree_refl | refine agree_upd rfl ?_ | refine agree_mix rfl ?_ | refine agree_setAll rfl ?_))
      case hI => exact ⟨k + 1, a49, c49, rfl, rfl, by omega⟩
      case hm => exact by show ns.length - (k + 1 : Int).toNat < ns.length - (k : Int).toNat; omega
      case hH => exact (Subs.st inferInstance)
    ·
      have p41 := h41
      try simp only [decide_eq_true_eq, decide_eq_false_iff_not, Bool.not_eq_true', Bool.not_eq_false', Option.isNone_iff_eq_none, ne_eq, Decidable.not_not, Int.not_lt, Int.not_le] at p41
      exact absurd p41 (by have := h1 _ (List.getElem_mem hk); omega)
  ·
    have p34 := h34
    try simp only [decide_eq_true_eq, decide_eq_false_iff_not, Bool.not_eq_true', Bool.not_eq_false', Option.isNone_iff_eq_none, ne_eq, Decidable.not_not, Int.not_lt, Int.not_le] at p34
    have hkn : k = ns.length := by omega
    have htk : ns.take k = ns := by rw [hkn]; exact List.take_length
    rw [htk]
    refine T_exit ?_
    refine X_then_exit ?_
    refine X_loop_exit ?_
    refine X_block_exit ?_
    refine X_then ?_
    refine T_seq ?_
    refine T_region ?_
    refine TL_q (Qt_move (.pointer _) rfl) rfl ?_
    refine TL_q (Qt_nilCheck rfl) rfl ?_
    refine TL_q (Qt_fieldAddr 2 rfl rfl) rfl ?_
    refine TL_q (Qt_load1 rfl) rfl ?_
    refine TL_conv (fun w hw => (Subs.st inferInstance w hw : St w0 (row (.slice ga ns.length gc) 3 1 (ns.flatMap encN) :: lblk b29 p pre (⟨ga, gc, ns, 0, 1, false⟩ : LS) :: DS.H p s H) w)) ?_
    refine TL_e rfl (Ef_call (sortI_c (l := ns) (m := m) hnl hp hsrt) rfl (fun x57 => ?_))
    refine TL_conv (fun w hw => open_mid hp hw) ?_
    have hm1 : ∀ n ∈ m, 1 ≤ n ∧ n < 100 := fun n hn => h1 n (hp.mem_iff.2 hn)
    refine TL_nil ?_
    refine X_then ?_
    refine T_seq ?_
    refine T_region ?_
    refine TL_q (Qt_assign (.slice _ _ _) rfl) rfl ?_
    refine TL_nil ?_
    refine X_then ?_
    refine T_seq ?_
    refine T_seq ?_
    refine T_region ?_
    refine TL_q (Qt_move (.pointer _) rfl) rfl ?_
    refine TL_q (Qt_nilCheck rfl) rfl ?_
    refine TL_q (Qt_fieldAddr 2 rfl rfl) rfl ?_
    refine TL_q (Qt_load1 rfl) rfl ?_
    refine TL_q (Qt_len_slice rfl Tryz.underlying99) rfl ?_
    refine TL_q (Qt_move (.int .i64 _) rfl) rfl ?_
    refine TL_nil ?_
    refine X_then ?_
    refine T_block ?_
    refine T_loop [4, 5, 6, 11, 12, 13, 14, 15, 16, 17, 18, 63, 64, 65, 66, 67, 68, 69, 70, 71, 72, 73, 74, 75, 76, 77, 78, 79, 80, 81, 82, 83, 84, 85, 86, 87, 88, 89, 90, 91, 92, 93, 94, 95, 96, 97, 98, 99, 100, 101, 102] [63, 11] (fun us H' => ∃ (k : Nat) (aa : Option Addr) (ac : Nat) (all : List BS) (fa : List Nat), us = [.int .i64 (k : Int), .slice aa all.length ac] ∧ row (.slice aa (all).length ac) 30 1 ((all).map BS.val) :: dat fa ⟨all, [], []⟩ :: lblk b29 p pre (runS fs rc (m.take k) (⟨ga, gc, m, 0, 1, false⟩ : LS)) :: row (.slice ga m.length gc) 3 1 (m.flatMap encN) :: DS.H p s H = H' ∧ k ≤ m.length ∧ (all.map BS.l = (m.take k).flatMap rc)) (fun us => match us with | .int _ i :: _ => m.length - i.toNat | _ => 0) ⟨0, none, 0, [], [], rfl, rfl, by omega, rfl⟩ (fun w hw => open_start (Subs.st inferInstance w hw)) ?_
    rintro τ1 _ _  ⟨k, aa, ac, all, fa, rfl, rfl, hk0, hall⟩ _
    refine T_seq ?_
    refine T_region ?_
    refine TL_q (Qt_lss rfl rfl) rfl ?_
    refine TL_nil ?_
    refine X_then ?_
    refine T_seq ?_
    refine T_cond rfl (fun h64 => ?_) (fun h64 => ?_)
    ·
      have p64 := h64
      try simp only [decide_eq_true_eq, decide_eq_false_iff_not, Bool.not_eq_true', Bool.not_eq_false', Option.isNone_iff_eq_none, ne_eq, Decidable.not_not, Int.not_lt, Int.not_le] at p64
      have hk : k < m.length := by omega
      have hml : m.length ≤ 1000 := by rw [← hp.length_eq]; exact hnl
      refine T_skip ?_
      refine X_then ?_
      refine T_seq ?_
      refine T_block ?_
      refine T_seq ?_
      refine T_region ?_
      refine TL_q (Qt_move (.int .i64 _) rfl) rfl ?_
      refine TL_q (Qt_indexR rfl rfl (by omega) (by rw [encN_len]; omega)) rfl ?_
      refine TL_q (Qt_loadR (.int .i64 ((m[k] : Nat) : Int)) rfl (encN_get m k hk)) rfl ?_
      refine TL_q (Qt_assign (.int .i64 _) rfl) rfl ?_
      refine TL_q (Qt_assign (.int .i64 _) rfl) rfl ?_
      refine TL_nil ?_
      refine X_then ?_
      refine T_seq ?_
      refine T_region ?_
      refine TL_q (Qt_move (.pointer _) rfl) rfl ?_
      refine TL_q (Qt_move (.pointer _) rfl) rfl ?_
      refine TL_q (Qt_move (.int .i64 _) rfl) rfl ?_
      have hdk := hd _ (List.getElem_mem hk)
      refine TL_frontA (lblk b29 p pre (runS fs rc (m.take k) (⟨ga, gc, m, 0, 1, false⟩ : LS))) ?_
      refine TL_e rfl (Ef_call (name_c (t := (runS fs rc (m.take k) (⟨ga, gc, m, 0, 1, false⟩ : LS))) hs (i := m[k]) (by have := hm1 _ (List.getElem_mem hk); omega)) rfl (fun x72 => ?_))
      refine TL_conv (fun w hw => (Subs.st inferInstance w hw : St w0 (DS.H p s (lblk b29 p pre (runS fs rc (m.take k) (⟨ga, gc, m, 0, 1, false⟩ : LS)) :: row (.slice ga m.length gc) 3 1 (m.flatMap encN) :: row (.slice aa (all).length ac) 30 1 ((all).map BS.val) :: dat fa ⟨all, [], []⟩ :: H)) w)) ?_
      refine TL_e rfl (Ef_call (dread_c (p := p) (s := s) hok hM (by omega) (nm := nmB pre m[k])) rfl (fun x73 => ?_))
      rw [hdk.1]
      refine TL_q (Qt_move (.tuple _) rfl) rfl ?_
      refine TL_q (Qt_extract rfl) rfl ?_
      refine TL_q (Qt_extract rfl) rfl ?_
      refine TL_q (Qt_assign (.slice _ _ _) rfl) rfl ?_
      refine TL_q (Qt_assign (.int .i64 _) rfl) rfl ?_
      refine TL_nil ?_
      refine X_then ?_
      refine T_seq ?_
      refine T_region ?_
      refine TL_q (Qt_move (.pointer _) rfl) rfl ?_
      refine TL_q (Qt_move (.slice _ _ _) rfl) rfl ?_
      refine TL_frontA (lblk b29 p pre (runS fs rc (m.take k) (⟨ga, gc, m, 0, 1, false⟩ : LS))) ?_
      refine TL_e rfl (Ef_call (scan_c (t := (runS fs rc (m.take k) (⟨ga, gc, m, 0, 1, false⟩ : LS))) (b := ⟨x73.a, x73.c, (recsB (fs m[k]) (rc m[k]))⟩) (n0 := fs m[k]) (recs := rc m[k]) rfl (by show (recsB (fs m[k]) (rc m[k])).length ≤ 100000000; have h5 := recsB_len (rc m[k]) (fs m[k]) (by omega) hdk.2.2.2; have h6 := flat_mem rc (List.getElem_mem hk); omega) hdk.2.1 hdk.2.2.1 (okS_at fs rc m (⟨ga, gc, m, 0, 1, false⟩ : LS) k hk (hoS ga gc)) (runS_nx fs rc 1000000 (m.take k) (⟨ga, gc, m, 0, 1, false⟩ : LS) (by show 1 ≤ 1000000; omega) (fun n hn => (hd n (List.mem_of_mem_take hn)).2.2.1)) hdk.2.2.2) rfl (fun x79 => ?_))
      refine TL_pure (fun h79 => ?_)
      have hln := congrArg List.length h79
      have hlk := congrArg List.length hall
      rw [List.length_map] at hln hlk
      have hfl := flat_le rc m (k + 1)
      rw [flat_step hk rc, List.length_append] at hfl
      refine TL_q (Qt_move (.tuple _) rfl) rfl ?_
      refine TL_q (Qt_extract rfl) rfl ?_
      refine TL_q (Qt_extract rfl) rfl ?_
      refine TL_q (Qt_assign (.slice _ _ _) rfl) rfl ?_
      refine TL_q (Qt_assign (.int .i64 _) rfl) rfl ?_
      refine TL_nil ?_
      refine X_then ?_
      refine T_seq ?_
      refine T_region ?_
      refine TL_q (Qt_move (.slice _ _ _) rfl) rfl ?_
      refine TL_q (Qt_move (.slice _ _ _) rfl) rfl ?_
      refine TL_e rfl (Ef_append1 (sv := .slice _ _ _) (xv := .slice _ _ _) (xs := all.map BS.val) (news := x79.2.1.map BS.val) rfl rfl (fun u hu => by obtain ⟨z, -, rfl⟩ := List.mem_map.1 hu; rfl) (by simp only [List.length_map]; omega) rfl (fun a84 c84 => ?_))
      rw [← List.map_append, List.length_map]
      refine TL_q (Qt_assign (.slice _ _ _) rfl) rfl ?_
      refine TL_nil ?_
      refine X_then ?_
      refine T_seq ?_
      refine T_region ?_
      refine TL_q (Qt_move (.pointer _) rfl) rfl ?_
      refine TL_q (Qt_move (.int .i64 _) rfl) rfl ?_
      refine TL_q (Qt_nilCheck rfl) rfl ?_
      refine TL_q (Qt_fieldAddr 3 rfl rfl) rfl ?_
      refine TL_n (Ef_store1 (.int .i64 _) rfl rfl (?_))
      refine TL_nil ?_
      refine X_then ?_
      refine T_seq ?_
      refine T_region ?_
      refine TL_q (Qt_move (.int .i64 _) rfl) rfl ?_
      refine TL_q (Qt_move (.slice _ _ _) rfl) rfl ?_
      refine TL_q (Qt_len_slice rfl Tryz.underlying30) rfl ?_
      refine TL_q (Qt_lss rfl rfl) rfl ?_
      refine TL_nil ?_
      refine X_then ?_
      refine T_cond rfl (fun h92 => ?_) (fun h92 => ?_)
      ·
        have p92 := h92
        try simp only [decide_eq_true_eq, decide_eq_false_iff_not, Bool.not_eq_true', Bool.not_eq_false', Option.isNone_iff_eq_none, ne_eq, Decidable.not_not, Int.not_lt, Int.not_le] at p92
        exact absurd p92 (by omega)
      ·
        have p92 := h92
        try simp only [decide_eq_true_eq, decide_eq_false_iff_not, Bool.not_eq_true', Bool.not_eq_false', Option.isNone_iff_eq_none, ne_eq, Decidable.not_not, Int.not_lt, Int.not_le] at p92
        refine T_skip ?_
        refine X_block ?_
        refine X_then ?_
        refine T_region ?_
        first
          | refine TL_q (Qt_add rfl rfl (by omega) (by omega)) rfl ?_
          | refine TL_q (Qt_addw rfl rfl) rfl ?_
        refine TL_q (Qt_move (.int .i64 _) rfl) rfl ?_
        refine TL_nil ?_
        apply X_loop
        case ha => exact (by repeat (first | with_reducible exact agree_refl | refine agree_upd rfl ?_ | refine agree_mix rfl ?_ | refine agree_setAll rfl ?_))
        case hI => exact ⟨k + 1, a84, c84, all ++ x79.2.1, fa ++ x79.2.2, rfl, rfl, by omega, by rw [List.map_append, hall, h79, flat_step hk rc]⟩
        case hm => exact by show m.length - (k + 1 : Int).toNat < m.length - (k : Int).toNat; omega
        case hH => exact fun w hw => (by rw [runS_step fs rc m (⟨ga, gc, m, 0, 1, false⟩ : LS) k hk]; exact Subs.st inferInstance w (open_step (fs := fs) (rc := rc) (n := m[k]) (t := (runS fs rc (m.take k) (⟨ga, gc, m, 0, 1, false⟩ : LS))) (lp := b29) (p := p) (pre := pre) (H := row (.slice ga m.length gc) 3 1 (m.flatMap encN) :: DS.H p s H) (all := all) (o := x79.2.1) (fa := fa) (fo := x79.2.2) (a := a84) (c := c84) (Subs.st inferInstance w hw)))
    ·
      have p64 := h64
      try simp only [decide_eq_true_eq, decide_eq_false_iff_not, Bool.not_eq_true', Bool.not_eq_false', Option.isNone_iff_eq_none, ne_eq, Decidable.not_not, Int.not_lt, Int.not_le] at p64
      have hkn2 : k = m.length := by omega
      have htk2 : m.take k = m := by rw [hkn2]; exact List.take_length
      refine T_exit ?_
      refine X_then_exit ?_
      refine X_loop_exit ?_
      refine X_block_exit ?_
      refine X_then ?_
      refine T_seq ?_
      refine T_region ?_
      refine TL_q (Qt_move (.pointer _) rfl) rfl ?_
      refine TL_q (Qt_move (.slice _ _ _) rfl) rfl ?_
      refine TL_q (Qt_assign (.pointer _) rfl) rfl ?_
      refine TL_q (Qt_assign (.slice _ _ _) rfl) rfl ?_
      refine TL_q (Qt_assign (.int .i64 _) rfl) rfl ?_
      refine TL_nil ?_
      refine X_then ?_
      refine T_ret ?_
      rw [htk2] at hall
      exact X_ret (b29, ⟨aa, ac⟩, all, fa) [_, _, _] Tryz.results9 ⟨rfl, rfl, rfl, trivial⟩ rfl (fun w hw => (Subs.st inferInstance w hw : St w0 (row (.slice aa (all).length ac) 30 1 ((all).map BS.val) :: dat fa ⟨all, [], []⟩ :: DS.H p s H) w).addPure hall)
end Go.Proofs.YtgfbdcjamalhhaaGreatDoor
