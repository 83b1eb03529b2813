/- Walks: do disks have the same files? -/
import Derived.Test.YtededghplnoajaaDq
import Derived.Test.YtededghplnoajaaTx
namespace Go.Proofs.Ytededghplnoajaa
open Go.RowKit Go.Sx
set_option maxRecDepth 100000
set_option linter.unusedSimpArgs false
set_option linter.unusedVariables false
def filesE (es : FM) : List (ByteArray × List UInt8) := (namesE es).map fun n => (n, (oldE es n).l)
theorem filesE_len (es : FM) : (filesE es).length = (namesE es).length := by rw [filesE, List.length_map]
theorem files_get (es : FM) (i : Nat) (h : i < (namesE es).length) : (filesE es)[i]? = some ((namesE es)[i], (oldE es (namesE es)[i]).l) := by
  rw [filesE, List.getElem?_map, List.getElem?_eq_getElem h]; rfl
theorem has_mem {es : FM} {k : ByteArray} (h : k ∈ es.map (·.k)) : hasE es k = true := by
  unfold hasE getE
  rw [Option.isSome_map, List.find?_isSome]
  obtain ⟨e, he, hk⟩ := List.mem_map.1 h
  exact ⟨e, he, by simp [hk]⟩
theorem mem_has {es : FM} {k : ByteArray} (h : hasE es k = true) : k ∈ es.map (·.k) := by
  unfold hasE at h
  obtain ⟨v, hv⟩ := Option.isSome_iff_exists.1 h
  obtain ⟨e, he, hk, -⟩ := getE_memF hv
  exact List.mem_map.2 ⟨e, he, hk⟩
theorem names_has {es : FM} {i : Nat} (h : i < (namesE es).length) : hasE es (namesE es)[i] = true := has_mem ((namesE_perm es).mem_iff.1 (List.getElem_mem h))
theorem names_eq {es fs : FM} {c d : Nat} (hg : GoodM es c) (hh : GoodM fs d) (hc : cont es = cont fs) : namesE es = namesE fs := by
  refine namesE_of ?_
  have hp : (es.map (·.k)).Perm (fs.map (·.k)) := (List.perm_ext_iff_of_nodup hg.keys hh.keys).2 fun k => ⟨fun h => mem_has (by rw [cont_has, ← hc, ← cont_has]; exact has_mem h), fun h => mem_has (by rw [cont_has, hc, ← cont_has]; exact has_mem h)⟩
  have h2 := hp.map (fun k : ByteArray => k.data.toList)
  rw [List.map_map, List.map_map] at h2
  exact h2
theorem files_eq {es fs : FM} {c d : Nat} (hg : GoodM es c) (hh : GoodM fs d) (hc : cont es = cont fs) : filesE es = filesE fs := by
  unfold filesE
  rw [names_eq hg hh hc]
  exact List.map_congr_left fun n _ => by rw [cont_old, cont_old, hc]
theorem KeyL.of {es fs : FM} (h : KeyL fs) (hc : cont es = cont fs) : KeyL es := fun e he => by
  have h1 : hasE fs e.k = true := by rw [cont_has, ← hc, ← cont_has]; exact has_mem (List.mem_map.2 ⟨e, he, rfl⟩)
  obtain ⟨d, hd, hk⟩ := List.mem_map.1 (mem_has h1)
  rw [← hk]; exact h d hd
theorem file_get (l : List FileV) (i j : Nat) (hi : i < l.length) (hj : j < 2) {u : Value} (h : CellAt l[i].cells j u) : (l.flatMap FileV.list)[i * 2 + j]? = some u := by
  rw [flat_get FileV.list 2 FileV.list_len l i j hi hj]
  exact cell_list (l := l[i].list) h
theorem file_pos {l : List FileV} {i : Nat} (hi : i < l.length) : 0 < (l.flatMap FileV.list).length := by rw [flat_len _ 2 FileV.list_len]; omega
def fileD (f : FileV) : ByteArray × List UInt8 := (f.name, f.b.l)
theorem fileD_get {es : FM} {L : List FileV} (h : L.map fileD = filesE es) {i : Nat} (hi : i < L.length) (hn : i < (namesE es).length) : L[i].name = (namesE es)[i] ∧ L[i].b.l = (oldE es (namesE es)[i]).l := by
  have h1 : (L.map fileD)[i]? = (filesE es)[i]? := by rw [h]
  rw [List.getElem?_map, List.getElem?_eq_getElem hi, files_get es i hn] at h1
  have h2 : fileD L[i] = _ := Option.some.inj h1
  exact ⟨congrArg Prod.fst h2, congrArg Prod.snd h2⟩
@[reducible] def poolS (t s : DS) : DS := { t with fp := s.fp, bs := s.bs }
theorem DS.Ok.pool {s t : DS} {N M N' M' : Nat} (h : s.Ok N M) (ht : t.Ok N' M') (hs : ∀ x ∈ s.bs, x ∈ t.bs) : (poolS s t).Ok N M' :=
  ⟨h.good1, h.good2, fun e he => hs _ (h.mem1 e he), fun e he => hs _ (h.mem2 e he), fun a ha => hs _ (h.memp a ha), ht.zero, ht.len, h.short, h.n1, h.n2, h.np, h.room0, h.room1, h.fuse1⟩
attribute [local irreducible] namesE

set_option maxHeartbeats 1000000 in
theorem dsame_c {w0 : World} {H : List SA} {p : Nat} {s : DS} {N M : Nat} (hok : s.Ok N M) (hN : N ≤ 1000000) (hM : M ≤ 1000000000) (hkz : KeyL s.e2) {a : Option Addr} {L : List FileV} {c : Nat} [hr : RdC w0 H (.slice a L.length c) 2 (L.flatMap FileV.list)] [hre : RdE w0 H (L.map (·.b))] (hL : L.map fileD = filesE s.e2) :
    CT Try.prog w0 (DS.H p s H) 23 [.pointer (some ⟨p, 0, none⟩), .slice a L.length c] (α := Unit) (fun _ => .bool true) (fun _ => DS.H p s H) := by
  refine CT_intro Try.func23 rfl Try.ntmps23 rfl ?_
  refine T_seq ?_
  refine T_region ?_
  refine TL_q (Qt_assign (.bool _) rfl) rfl ?_
  refine TL_nil ?_
  refine X_then ?_
  refine T_seq ?_
  refine T_region ?_
  refine TL_q (Qt_move (.pointer _) rfl) rfl ?_
  refine TL_e rfl (Ef_call (dnames_c (p := p) (s := s) hok hN hkz.le) rfl (fun x10 => ?_))
  have hlen : L.length = (namesE s.e2).length := by have := congrArg List.length hL; rwa [List.length_map, filesE_len] at this
  have hnl := namesE_len s.e2
  have hn2 := hok.n2
  refine TL_q (Qt_assign (.slice _ _ _) rfl) rfl ?_
  refine TL_nil ?_
  refine X_then ?_
  refine T_seq ?_
  refine T_seq ?_
  refine T_region ?_
  refine TL_q (Qt_move (.slice _ _ _) rfl) rfl ?_
  refine TL_q (Qt_len_slice rfl Try.underlying55) rfl ?_
  refine TL_q (Qt_move (.slice _ _ _) rfl) rfl ?_
  refine TL_q (Qt_len_slice rfl Try.underlying50) rfl ?_
  refine TL_q (Qt_neq rfl rfl) rfl ?_
  refine TL_nil ?_
  refine X_then ?_
  refine T_cond rfl (fun h15 => ?_) (fun h15 => ?_)
  ·
    have p15 := h15
    try simp only [decide_eq_true_eq, decide_eq_false_iff_not, Bool.not_eq_true', Bool.not_eq_false', Option.isNone_iff_eq_none, ne_eq, Decidable.not_not, Int.not_lt, Int.not_le] at p15
    exfalso; simp at h15; omega
  ·
    have p15 := h15
    try simp only [decide_eq_true_eq, decide_eq_false_iff_not, Bool.not_eq_true', Bool.not_eq_false', Option.isNone_iff_eq_none, ne_eq, Decidable.not_not, Int.not_lt, Int.not_le] at p15
    refine T_skip ?_
    refine X_then ?_
    refine T_seq ?_
    refine T_seq ?_
    refine T_region ?_
    refine TL_q (Qt_move (.slice _ _ _) rfl) rfl ?_
    refine TL_q (Qt_len_slice rfl Try.underlying50) rfl ?_
    refine TL_q (Qt_move (.int .i64 _) rfl) rfl ?_
    refine TL_nil ?_
    refine X_then ?_
    refine T_block ?_
    refine T_loop [4, 6, 7, 8, 18, 19, 20, 21, 22, 23, 24, 25, 26, 27, 28, 29, 30, 31, 32, 33, 34, 35, 36, 37, 38, 39, 40, 41, 42, 43, 44, 45, 46, 47, 48, 49, 50, 51, 52, 53, 54] [18] (fun us H' => ∃ (k : Nat), us = [.int .i64 (k : Int)] ∧ row (.slice x10.a (namesE s.e2).length x10.c) 9 1 ((namesE s.e2).map encS) :: DS.H p s H = H' ∧ k ≤ L.length) (fun us => match us with | .int _ i :: _ => L.length - i.toNat | _ => 0) ⟨0, rfl, rfl, by omega⟩ (Subs.st inferInstance) ?_
    rintro τ0 _ _  ⟨k, rfl, rfl, hk0⟩ _
    refine T_seq ?_
    refine T_region ?_
    refine TL_q (Qt_lss rfl rfl) rfl ?_
    refine TL_nil ?_
    refine X_then ?_
    refine T_seq ?_
    refine T_cond rfl (fun h19 => ?_) (fun h19 => ?_)
    ·
      have p19 := h19
      try simp only [decide_eq_true_eq, decide_eq_false_iff_not, Bool.not_eq_true', Bool.not_eq_false', Option.isNone_iff_eq_none, ne_eq, Decidable.not_not, Int.not_lt, Int.not_le] at p19
      have hkL : k < L.length := by omega
      have hk : k < (namesE s.e2).length := by omega
      refine T_skip ?_
      refine X_then ?_
      refine T_seq ?_
      refine T_block ?_
      refine T_seq ?_
      refine T_region ?_
      refine TL_q (Qt_move (.int .i64 _) rfl) rfl ?_
      refine TL_q (Qt_assign (.int .i64 _) rfl) rfl ?_
      refine TL_nil ?_
      refine X_then ?_
      refine T_seq ?_
      refine T_region ?_
      refine TL_q (Qt_move (.pointer _) rfl) rfl ?_
      refine TL_q (Qt_move (.slice _ _ _) rfl) rfl ?_
      refine TL_q (Qt_move (.int .i64 _) rfl) rfl ?_
      refine TL_q (Qt_indexR rfl rfl (by omega) (by simp; omega)) rfl ?_
      refine TL_q (Qt_loadR (.string _) rfl (name_get _ k hk)) rfl ?_
      refine TL_conv (fun w hw => (Subs.st inferInstance w hw : St w0 (DS.H p s (row (.slice x10.a (namesE s.e2).length x10.c) 9 1 ((namesE s.e2).map encS) :: H)) w)) ?_
      refine TL_e rfl (Ef_call (dread_c (p := p) (s := s) hok hN (by omega) (nm := (namesE s.e2)[k])) rfl (fun x27 => ?_))
      obtain ⟨e1, e2⟩ := fileD_get hL hkL hk
      have e3 := names_has hk
      refine TL_q (Qt_move (.tuple _) rfl) rfl ?_
      refine TL_q (Qt_extract rfl) rfl ?_
      refine TL_q (Qt_extract rfl) rfl ?_
      refine TL_q (Qt_assign (.slice _ _ _) rfl) rfl ?_
      refine TL_q (Qt_assign (.int .i64 _) rfl) rfl ?_
      refine TL_nil ?_
      refine X_then ?_
      refine T_seq ?_
      refine T_draw (row (.slice x27.a (oldE s.e2 (namesE s.e2)[k]).l.length x27.c) 5 1 (bytesV (oldE s.e2 (namesE s.e2)[k]).l) :: row (.slice x10.a (namesE s.e2).length x10.c) 9 1 ((namesE s.e2).map encS) :: H) [(0, true), (1, true), (2, true), (3, true), (4, true), (5, true), (6, true), (7, true), (8, true), (9, true), (10, true), (11, true), (12, true), (13, true), (14, true), (15, true), (16, true), (17, true), (18, true), (19, true), (20, true), (21, false), (22, true), (23, true)] (by kernel_rfl) (by kernel_rfl) rfl (by kernel_rfl) (Subs.st inferInstance) (fun hns0 => ?_)
      refine DL_q hns0 rfl (Qt_move (.slice _ _ _) rfl) rfl ?_
      refine DL_q hns0 rfl (Qt_move (.int .i64 _) rfl) rfl ?_
      refine DL_q hns0 rfl (Qt_indexR rfl rfl (by omega) (by simp; omega)) rfl ?_
      refine DL_q hns0 rfl (Qt_loadR (.string _) rfl (name_get _ k hk)) rfl ?_
      refine DL_q hns0 rfl (Qt_move (.slice _ _ _) rfl) rfl ?_
      refine DL_q hns0 rfl (Qt_move (.int .i64 _) rfl) rfl ?_
      refine DL_q hns0 rfl (Qt_indexN rfl rfl (by omega) (by omega)) rfl ?_
      refine DL_q hns0 rfl (Qt_fieldR rfl 2 (file_pos hkL)) rfl ?_
      refine DL_q hns0 rfl (Qt_loadRs 2 (.string _) rfl (file_get L k 0 hkL (by decide) inferInstance)) rfl ?_
      refine DL_q hns0 rfl (Qt_str_neq rfl rfl) rfl ?_
      refine DL_q hns0 rfl (Qt_move (.bool _) rfl) rfl ?_
      refine DL_split 40 rfl (fun h40 => ?_) (fun h40 => ?_)
      ·
        have p40 := h40
        try simp only [decide_eq_true_eq, decide_eq_false_iff_not, Bool.not_eq_true', Bool.not_eq_false', Option.isNone_iff_eq_none, ne_eq, Decidable.not_not, Int.not_lt, Int.not_le] at p40
        exact absurd h40 (by simp [e1])
      ·
        have p40 := h40
        try simp only [decide_eq_true_eq, decide_eq_false_iff_not, Bool.not_eq_true', Bool.not_eq_false', Option.isNone_iff_eq_none, ne_eq, Decidable.not_not, Int.not_lt, Int.not_le] at p40
        refine DL_qg hns0 rfl rfl rfl h40 (Qt_move (.int .i64 _) rfl) rfl ?_
        refine DL_qg hns0 rfl rfl rfl h40 (Qt_neq rfl rfl) rfl ?_
        refine DL_q hns0 rfl (Qt_pick_f (.bool _) rfl h40 rfl) rfl ?_
        refine DL_q hns0 rfl (Qt_move (.bool _) rfl) rfl ?_
        refine DL_split 44 rfl (fun h44 => ?_) (fun h44 => ?_)
        ·
          have p44 := h44
          try simp only [decide_eq_true_eq, decide_eq_false_iff_not, Bool.not_eq_true', Bool.not_eq_false', Option.isNone_iff_eq_none, ne_eq, Decidable.not_not, Int.not_lt, Int.not_le] at p44
          exact absurd h44 (by simp [e3])
        ·
          have p44 := h44
          try simp only [decide_eq_true_eq, decide_eq_false_iff_not, Bool.not_eq_true', Bool.not_eq_false', Option.isNone_iff_eq_none, ne_eq, Decidable.not_not, Int.not_lt, Int.not_le] at p44
          refine DL_qg hns0 rfl rfl rfl h44 (Qt_move (.slice _ _ _) rfl) rfl ?_
          refine DL_qg hns0 rfl rfl rfl h44 (Qt_move (.slice _ _ _) rfl) rfl ?_
          refine DL_qg hns0 rfl rfl rfl h44 (Qt_move (.int .i64 _) rfl) rfl ?_
          refine DL_qg hns0 rfl rfl rfl h44 (Qt_indexN rfl rfl (by omega) (by omega)) rfl ?_
          refine DL_qg hns0 rfl rfl rfl h44 (Qt_fieldR rfl 2 (file_pos hkL)) rfl ?_
          refine DL_qg hns0 rfl rfl rfl h44 (Qt_loadRs 2 (.slice _ _ _) rfl (file_get L k 1 hkL (by decide) inferInstance)) rfl ?_
          have : RdB w0 H (.slice L[k].b.a L[k].b.l.length L[k].b.c) L[k].b.l := hre.get (List.mem_map.2 ⟨L[k], List.getElem_mem hkL, rfl⟩)
          refine DL_eg rfl rfl rfl h44 rfl (Ef_call (same_c (by have := hok.len _ (oldE_mem hok.mem2 hok.zero (namesE s.e2)[k]); omega)) rfl (fun x51 => ⟨(Subs.st inferInstance), ?_⟩))
          refine DL_qg hns0 rfl rfl rfl h44 (Qt_not rfl) rfl ?_
          refine DL_q hns0 rfl (Qt_pick_f (.bool _) rfl h44 rfl) rfl ?_
          refine DL_nil ?_
          refine X_then ?_
          refine T_cond rfl (fun h53 => ?_) (fun h53 => ?_)
          ·
            have p53 := h53
            try simp only [decide_eq_true_eq, decide_eq_false_iff_not, Bool.not_eq_true', Bool.not_eq_false', Option.isNone_iff_eq_none, ne_eq, Decidable.not_not, Int.not_lt, Int.not_le] at p53
            exact absurd h53 (by simp [e2])
          ·
            have p53 := h53
            try simp only [decide_eq_true_eq, decide_eq_false_iff_not, Bool.not_eq_true', Bool.not_eq_false', Option.isNone_iff_eq_none, ne_eq, Decidable.not_not, Int.not_lt, Int.not_le] at p53
            refine T_skip ?_
            refine X_block ?_
            refine X_then ?_
            refine T_region ?_
            first
              | refine TL_q (Qt_add rfl rfl (by omega) (by omega)) rfl ?_
              | refine TL_q (Qt_addw rfl rfl) rfl ?_
            refine TL_q (Qt_move (.int .i64 _) rfl) rfl ?_
            refine TL_nil ?_
            apply X_loop
            case ha => exact (by repeat (first | with_reducible exact agree_refl | refine agree_upd rfl ?_ | refine agree_mix rfl ?_ | refine agree_setAll rfl ?_))
            case hI => exact ⟨k + 1, rfl, rfl, by omega⟩
            case hm => exact by show L.length - (k + 1 : Int).toNat < L.length - (k : Int).toNat; omega
            case hH => exact (Subs.st inferInstance)
    ·
      have p19 := h19
      try simp only [decide_eq_true_eq, decide_eq_false_iff_not, Bool.not_eq_true', Bool.not_eq_false', Option.isNone_iff_eq_none, ne_eq, Decidable.not_not, Int.not_lt, Int.not_le] at p19
      refine T_exit ?_
      refine X_then_exit ?_
      refine X_loop_exit ?_
      refine X_block_exit ?_
      refine X_then ?_
      refine T_seq ?_
      refine T_region ?_
      refine TL_q (Qt_assign (.bool _) rfl) rfl ?_
      refine TL_nil ?_
      refine X_then ?_
      refine T_ret ?_
      exact X_ret () [_] Try.results23 ⟨rfl, trivial⟩ rfl (Subs.st inferInstance)
theorem alike_end {w0 w : World} {H : List SA} {x : BS} {L : List FileV} {nm : ByteArray} {fo : List Nat} {y : SA}
    (h : St w0 (row (.slice x.a x.l.length x.c) 5 1 (bytesV x.l) :: eachA fo (L.map (·.b)) :: y :: H) w) : St w0 (y :: eachA (rowFp (BS.val x) ++ fo) ((L ++ [FileV.mk nm x]).map (·.b)) :: H) w := by
  have h1 := St.eachAdd (b := x) h
  rw [List.map_append]
  exact (Subs.st inferInstance w h1 : St w0 (y :: eachA (rowFp (BS.val x) ++ fo) (L.map (·.b) ++ [x]) :: H) w)
set_option maxHeartbeats 1000000 in
theorem alike_c {w0 : World} {H : List SA} {p : Nat} {s : DS} {N M : Nat} (hok : s.Ok N M) (hN : N ≤ 1000000) (hM : M ≤ 1000000000) (hkz : KeyL s.e2) {q : Nat} {t : DS} {N2 M2 : Nat} (hokt : (poolS t s).Ok N2 M2) (hN2 : N2 ≤ 1000000) (hM2 : M2 ≤ 1000000000) (hkt : KeyL t.e2) (hc : cont s.e2 = cont t.e2) :
    CT Try.prog w0 (DS.H p s (dblk q (poolS t s) :: blk ((poolS t s)).r1 (mapO encS BS.val ((poolS t s)).e1 ((poolS t s)).c1) :: blk ((poolS t s)).r2 (mapO encS BS.val ((poolS t s)).e2 ((poolS t s)).c2) :: prow (poolS t s) :: H)) 20 [.pointer (some ⟨p, 0, none⟩), .pointer (some ⟨q, 0, none⟩)] (α := Unit) (fun _ => .bool true) (fun _ => DS.H p s (dblk q (poolS t s) :: blk ((poolS t s)).r1 (mapO encS BS.val ((poolS t s)).e1 ((poolS t s)).c1) :: blk ((poolS t s)).r2 (mapO encS BS.val ((poolS t s)).e2 ((poolS t s)).c2) :: prow (poolS t s) :: H)) := by
  refine CT_intro Try.func20 rfl Try.ntmps20 rfl ?_
  refine T_seq ?_
  refine T_region ?_
  refine TL_q (Qt_assign (.bool _) rfl) rfl ?_
  refine TL_nil ?_
  refine X_then ?_
  refine T_seq ?_
  refine T_region ?_
  refine TL_q (Qt_assign (.slice _ _ _) rfl) rfl ?_
  refine TL_nil ?_
  refine X_then ?_
  refine T_seq ?_
  refine T_seq ?_
  refine T_region ?_
  refine TL_q (Qt_move (.pointer _) rfl) rfl ?_
  refine TL_conv (fun w hw => (Subs.st inferInstance w hw : St w0 (DS.H q (poolS t s) (dblk p s :: blk (s).r1 (mapO encS BS.val (s).e1 (s).c1) :: blk (s).r2 (mapO encS BS.val (s).e2 (s).c2) :: prow s :: H)) w)) ?_
  refine TL_e rfl (Ef_call (dnames_c (p := q) (s := (poolS t s)) hokt hN2 hkt.le) rfl (fun x11 => ?_))
  have hnl := namesE_len t.e2
  have hn2 : t.e2.length ≤ N2 := hokt.n2
  refine TL_q (Qt_len_slice rfl Try.underlying55) rfl ?_
  refine TL_q (Qt_move (.int .i64 _) rfl) rfl ?_
  refine TL_nil ?_
  refine X_then ?_
  refine T_block ?_
  refine T_loop [5, 7, 8, 9, 13, 14, 15, 16, 17, 18, 19, 20, 21, 22, 23, 24, 25, 26, 27, 28, 29] [13, 5] (fun us H' => ∃ (k : Nat) (a2 : Option Addr) (c2 : Nat) (L : List FileV) (fo : List Nat), us = [.int .i64 (k : Int), .slice a2 L.length c2] ∧ row (.slice a2 (L).length c2) 81 2 ((L).flatMap FileV.list) :: eachA fo (L.map (·.b)) :: row (.slice x11.a (namesE t.e2).length x11.c) 9 1 ((namesE t.e2).map encS) :: DS.H q (poolS t s) (dblk p s :: blk (s).r1 (mapO encS BS.val (s).e1 (s).c1) :: blk (s).r2 (mapO encS BS.val (s).e2 (s).c2) :: prow s :: H) = H' ∧ k ≤ (namesE t.e2).length ∧ (L.map fileD = (filesE t.e2).take k) ∧ (L.length = k)) (fun us => match us with | .int _ i :: _ => (namesE t.e2).length - i.toNat | _ => 0) ⟨0, none, 0, [], [], rfl, rfl, by omega, rfl, rfl⟩ (fun w hw => by
        have h0 : St w0 (row (.slice x11.a (namesE t.e2).length x11.c) 9 1 ((namesE t.e2).map encS) :: DS.H q (poolS t s) (dblk p s :: blk (s).r1 (mapO encS BS.val (s).e1 (s).c1) :: blk (s).r2 (mapO encS BS.val (s).e2 (s).c2) :: prow s :: H)) w := Subs.st inferInstance w hw
        exact (h0.eachNil).addNil 81 2) ?_
  rintro τ0 _ _  ⟨k, a2, c2, L, fo, rfl, rfl, hk0, hL, hLl⟩ _
  refine T_seq ?_
  refine T_region ?_
  refine TL_q (Qt_lss rfl rfl) rfl ?_
  refine TL_nil ?_
  refine X_then ?_
  refine T_seq ?_
  refine T_cond rfl (fun h14 => ?_) (fun h14 => ?_)
  ·
    have p14 := h14
    try simp only [decide_eq_true_eq, decide_eq_false_iff_not, Bool.not_eq_true', Bool.not_eq_false', Option.isNone_iff_eq_none, ne_eq, Decidable.not_not, Int.not_lt, Int.not_le] at p14
    have hk : k < (namesE t.e2).length := by omega
    refine T_skip ?_
    refine X_then ?_
    refine T_seq ?_
    refine T_block ?_
    refine T_seq ?_
    refine T_region ?_
    refine TL_q (Qt_indexR rfl rfl (by omega) (by simp; omega)) rfl ?_
    refine TL_q (Qt_loadR (.string _) rfl (name_get _ k hk)) rfl ?_
    refine TL_q (Qt_assign (.string _) rfl) rfl ?_
    refine TL_nil ?_
    refine X_then ?_
    refine T_seq ?_
    refine T_region ?_
    refine TL_q (Qt_move (.pointer _) rfl) rfl ?_
    refine TL_q (Qt_move (.string _) rfl) rfl ?_
    refine TL_conv (fun w hw => (Subs.st inferInstance w hw : St w0 (DS.H q (poolS t s) (row (.slice a2 (L).length c2) 81 2 ((L).flatMap FileV.list) :: eachA fo (L.map (·.b)) :: row (.slice x11.a (namesE t.e2).length x11.c) 9 1 ((namesE t.e2).map encS) :: dblk p s :: blk (s).r1 (mapO encS BS.val (s).e1 (s).c1) :: blk (s).r2 (mapO encS BS.val (s).e2 (s).c2) :: prow s :: H)) w)) ?_
    refine TL_e rfl (Ef_call (dread_c (p := q) (s := (poolS t s)) hokt hN2 (by omega) (nm := (namesE t.e2)[k])) rfl (fun x20 => ?_))
    refine TL_q (Qt_move (.tuple _) rfl) rfl ?_
    refine TL_q (Qt_extract rfl) rfl ?_
    refine TL_q (Qt_extract rfl) rfl ?_
    refine TL_q (Qt_assign (.slice _ _ _) rfl) rfl ?_
    refine TL_q (Qt_assign (.int .i64 _) rfl) rfl ?_
    refine TL_nil ?_
    refine X_then ?_
    refine T_region ?_
    refine TL_q (Qt_move (.slice _ _ _) rfl) rfl ?_
    refine TL_q (Qt_move (.string _) rfl) rfl ?_
    refine TL_q (Qt_move (.slice _ _ _) rfl) rfl ?_
    refine TL_q (Qt_build [(0, (.string _)), (1, .slice _ _ _)] rfl (by kernel_rfl)) rfl ?_
    refine TL_e rfl (Ef_sliceN (m := ([(FileV.mk (namesE t.e2)[k] ⟨x20.a, x20.c, (oldE t.e2 (namesE t.e2)[k]).l⟩)] : List FileV).length) [.agg ((FileV.mk (namesE t.e2)[k] ⟨x20.a, x20.c, (oldE t.e2 (namesE t.e2)[k]).l⟩)).cells] (([(FileV.mk (namesE t.e2)[k] ⟨x20.a, x20.c, (oldE t.e2 (namesE t.e2)[k]).l⟩)] : List FileV).flatMap FileV.list) rfl rfl rfl rfl (by simp [Value.cells, FileV.size]) rfl rfl (fun a27 c27 => ?_))
    refine TL_e rfl (Ef_appendS FileV.list (sv := .slice _ _ _) (xv := .slice _ _ _) (xs := L) (ys := [(FileV.mk (namesE t.e2)[k] ⟨x20.a, x20.c, (oldE t.e2 (namesE t.e2)[k]).l⟩)]) FileV.list_len FileV.list_one rfl rfl (by simp; omega) rfl rfl (fun a28 c28 => ?_))
    refine TL_q (Qt_assign (.slice _ _ _) rfl) rfl ?_
    refine TL_nil ?_
    refine X_block ?_
    refine X_then ?_
    refine T_region ?_
    first
      | refine TL_q (Qt_add rfl rfl (by omega) (by omega)) rfl ?_
      | refine TL_q (Qt_addw rfl rfl) rfl ?_
    refine TL_q (Qt_move (.int .i64 _) rfl) rfl ?_
    refine TL_nil ?_
    apply X_loop
    case ha => exact (by repeat (first | with_reducible exact agree_refl | refine agree_upd rfl ?_ | refine agree_mix rfl ?_ | refine agree_setAll rfl ?_))
    case hI => exact ⟨k + 1, a28, c28, L ++ [(FileV.mk (namesE t.e2)[k] ⟨x20.a, x20.c, (oldE t.e2 (namesE t.e2)[k]).l⟩)], rowFp (BS.val ⟨x20.a, x20.c, (oldE t.e2 (namesE t.e2)[k]).l⟩) ++ fo, rfl, rfl, by omega, by rw [List.map_append, hL, List.take_add_one, files_get t.e2 k hk]; rfl, by simp [hLl]⟩
    case hm => exact by show (namesE t.e2).length - (k + 1 : Int).toNat < (namesE t.e2).length - (k : Int).toNat; omega
    case hH => exact (fun w hw => alike_end (x := ⟨x20.a, x20.c, (oldE t.e2 (namesE t.e2)[k]).l⟩) (nm := (namesE t.e2)[k]) (Subs.st inferInstance w hw : St w0 (row (.slice x20.a (oldE t.e2 (namesE t.e2)[k]).l.length x20.c) 5 1 (bytesV (oldE t.e2 (namesE t.e2)[k]).l) :: eachA fo (L.map (·.b)) :: row (.slice a28 (L ++ [(FileV.mk (namesE t.e2)[k] ⟨x20.a, x20.c, (oldE t.e2 (namesE t.e2)[k]).l⟩)]).length c28) 81 2 ((L ++ [(FileV.mk (namesE t.e2)[k] ⟨x20.a, x20.c, (oldE t.e2 (namesE t.e2)[k]).l⟩)]).flatMap FileV.list) :: row (.slice x11.a (namesE t.e2).length x11.c) 9 1 ((namesE t.e2).map encS) :: DS.H q (poolS t s) (dblk p s :: blk (s).r1 (mapO encS BS.val (s).e1 (s).c1) :: blk (s).r2 (mapO encS BS.val (s).e2 (s).c2) :: prow s :: H)) w))
  ·
    have p14 := h14
    try simp only [decide_eq_true_eq, decide_eq_false_iff_not, Bool.not_eq_true', Bool.not_eq_false', Option.isNone_iff_eq_none, ne_eq, Decidable.not_not, Int.not_lt, Int.not_le] at p14
    have hkn : k = (namesE t.e2).length := by omega
    refine T_exit ?_
    refine X_then_exit ?_
    refine X_loop_exit ?_
    refine X_block_exit ?_
    refine X_then ?_
    refine T_seq ?_
    refine T_region ?_
    refine TL_q (Qt_move (.pointer _) rfl) rfl ?_
    refine TL_q (Qt_move (.slice _ _ _) rfl) rfl ?_
    have hfin : L.map fileD = filesE s.e2 := by rw [hL, List.take_of_length_le (by rw [filesE_len]; omega), files_eq hok.good2 hokt.good2 hc]
    refine TL_conv (fun w hw => (Subs.st inferInstance w hw : St w0 (DS.H p s (row (.slice a2 (L).length c2) 81 2 ((L).flatMap FileV.list) :: eachA fo (L.map (·.b)) :: dblk q (poolS t s) :: blk ((poolS t s)).r1 (mapO encS BS.val ((poolS t s)).e1 ((poolS t s)).c1) :: blk ((poolS t s)).r2 (mapO encS BS.val ((poolS t s)).e2 ((poolS t s)).c2) :: prow (poolS t s) :: H)) w)) ?_
    refine TL_e rfl (Ef_call (dsame_c (p := p) (s := s) hok hN hM hkz (L := L) hfin) rfl (fun x32 => ?_))
    refine TL_q (Qt_assign (.bool _) rfl) rfl ?_
    refine TL_nil ?_
    refine X_then ?_
    refine T_ret ?_
    exact X_ret () [_] Try.results20 ⟨rfl, trivial⟩ rfl (Subs.st inferInstance)
end Go.Proofs.Ytededghplnoajaa
