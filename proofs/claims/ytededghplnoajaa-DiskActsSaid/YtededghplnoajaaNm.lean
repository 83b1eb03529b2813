/- The names of files, sorted: the library's contracts at this program. -/
import Derived.Shelf.SlIter.Nil
import Derived.Shelf.SortM.Plain
import Derived.Shelf.SortM.SortNone
import Derived.Test.YtededghplnoajaaDg
namespace Go.Proofs.Ytededghplnoajaa
open Go.RowKit Go.Sx
set_option maxRecDepth 100000
set_option linter.unusedSimpArgs false
set_option linter.unusedVariables false
open Go.Maps Go.Sort Go.Shelf
def nmKeys48_ren : Go.Shelf.Ren := ⟨fun | 7 => 48 | 10 => 58 | n => n, fun | 23 => 61 | 26 => 9 | 3 => 32 | 28 => 86 | 0 => 0 | 27 => 85 | 33 => 65 | 4 => 4 | n => n, fun | n => n⟩
theorem nmKeys48 : Go.Proofs.SlLaysZ.n7 Try.prog nmKeys48_ren where
  mixed := by kernel_rfl
  f7 := ⟨ "maps.Keys[consistory/disk.files,string,[]byte]", by decide, Try.func48.trans (congrArg some (by kernel_rfl))⟩
  f10 := ⟨ "maps.Keys[consistory/disk.files,string,[]byte]$1", by decide, Try.func58.trans (congrArg some (by kernel_rfl))⟩
  t0 := Try.underlying0
  a0 := Try.isAgg0
  z0 := Try.sizeOf0
  v0 := Try.zeroValue0
  t4 := Try.underlying4
  a4 := Try.isAgg4
  z4 := Try.sizeOf4
  v4 := Try.zeroValue4
  t23 := Try.underlying61
  a23 := Try.isAgg61
  z23 := Try.sizeOf61
  v23 := Try.zeroValue61
  t26 := Try.underlying9
  a26 := Try.isAgg9
  z26 := Try.sizeOf9
  v26 := Try.zeroValue9
  t27 := Try.underlying85
  a27 := Try.isAgg85
  z27 := Try.sizeOf85
  v27 := Try.zeroValue85
  t28 := Try.underlying86
  a28 := Try.isAgg86
  z28 := Try.sizeOf86
  v28 := Try.zeroValue86
  t33 := Try.underlying65
  a33 := Try.isAgg65
  z33 := Try.sizeOf65
  v33 := Try.zeroValue65
def nmSorted47_ren : Go.Shelf.Ren := ⟨fun | 6 => 47 | 8 => 56 | 9 => 57 | 11 => 60 | 13 => 62 | 12 => 61 | 23 => 72 | 24 => 73 | 14 => 63 | 15 => 64 | 16 => 65 | 17 => 66 | 18 => 67 | 19 => 68 | 20 => 69 | 21 => 70 | 22 => 71 | 25 => 74 | 26 => 75 | 27 => 76 | 28 => 77 | 29 => 78 | 30 => 79 | 31 => 80 | n => n, fun | 26 => 9 | 28 => 86 | 24 => 55 | 0 => 0 | 3 => 3 | 37 => 99 | 48 => 110 | 50 => 23 | 4 => 4 | 40 => 102 | 39 => 101 | 45 => 107 | 5 => 5 | 9 => 9 | 51 => 112 | 55 => 116 | 57 => 118 | 58 => 119 | 33 => 65 | n => n, fun | n => n⟩
theorem nmSorted47 : Go.Proofs.SlLaysZ.n6 Try.prog nmSorted47_ren where
  mixed := by kernel_rfl
  f6 := ⟨ "slices.Sorted[string]", by decide, Try.func47.trans (congrArg some (by kernel_rfl))⟩
  f8 := ⟨ "slices.Collect[string]", by decide, Try.func56.trans (congrArg some (by kernel_rfl))⟩
  f11 := ⟨ "slices.AppendSeq[[]string,string]", by decide, Try.func60.trans (congrArg some (by kernel_rfl))⟩
  t0 := Try.underlying0
  a0 := Try.isAgg0
  z0 := Try.sizeOf0
  v0 := Try.zeroValue0
  t24 := Try.underlying55
  a24 := Try.isAgg55
  z24 := Try.sizeOf55
  v24 := Try.zeroValue55
  t26 := Try.underlying9
  a26 := Try.isAgg9
  z26 := Try.sizeOf9
  v26 := Try.zeroValue9
  t28 := Try.underlying86
  a28 := Try.isAgg86
  z28 := Try.sizeOf86
  v28 := Try.zeroValue86
  i26 := by kernel_rfl
def nmSort57_ren : Go.Shelf.Ren := ⟨fun | 6 => 57 | 8 => 62 | 9 => 61 | 19 => 72 | 20 => 73 | 21 => 63 | 22 => 64 | 23 => 65 | 24 => 66 | 25 => 67 | 26 => 68 | 27 => 69 | 28 => 70 | 29 => 71 | 36 => 74 | 31 => 75 | 32 => 76 | 37 => 77 | 38 => 78 | 39 => 79 | 41 => 80 | n => n, fun | 27 => 55 | 29 => 9 | 3 => 3 | 32 => 99 | 26 => 55 | 0 => 0 | 44 => 110 | 46 => 23 | 4 => 4 | 36 => 102 | 35 => 101 | 41 => 107 | 5 => 5 | 9 => 9 | 53 => 112 | 57 => 116 | 63 => 118 | 64 => 119 | n => n, fun | n => n⟩
theorem nmSort57 : Go.Proofs.SlLaysM.n6 Try.prog nmSort57_ren where
  mixed := by kernel_rfl
  f6 := ⟨ "slices.Sort[[]string,string]", by decide, Try.func57.trans (congrArg some (by kernel_rfl))⟩
  f8 := Try.func62.trans (congrArg some (by kernel_rfl))
  f9 := ⟨ "slices.pdqsortOrdered[string]", by decide, Try.func61.trans (congrArg some (by kernel_rfl))⟩
  f19 := Try.func72.trans (congrArg some (by kernel_rfl))
  f20 := Try.func73.trans (congrArg some (by kernel_rfl))
  f21 := ⟨ "slices.insertionSortOrdered[string]", by decide, Try.func63.trans (congrArg some (by kernel_rfl))⟩
  f22 := ⟨ "slices.heapSortOrdered[string]", by decide, Try.func64.trans (congrArg some (by kernel_rfl))⟩
  f23 := ⟨ "slices.breakPatternsOrdered[string]", by decide, Try.func65.trans (congrArg some (by kernel_rfl))⟩
  f24 := ⟨ "slices.choosePivotOrdered[string]", by decide, Try.func66.trans (congrArg some (by kernel_rfl))⟩
  f25 := ⟨ "slices.reverseRangeOrdered[string]", by decide, Try.func67.trans (congrArg some (by kernel_rfl))⟩
  f26 := ⟨ "slices.partialInsertionSortOrdered[string]", by decide, Try.func68.trans (congrArg some (by kernel_rfl))⟩
  f27 := ⟨ "cmp.Less[string]", by decide, Try.func69.trans (congrArg some (by kernel_rfl))⟩
  f28 := ⟨ "slices.partitionEqualOrdered[string]", by decide, Try.func70.trans (congrArg some (by kernel_rfl))⟩
  f29 := ⟨ "slices.partitionOrdered[string]", by decide, Try.func71.trans (congrArg some (by kernel_rfl))⟩
  f31 := Try.func75.trans (congrArg some (by kernel_rfl))
  f32 := Try.func76.trans (congrArg some (by kernel_rfl))
  f36 := ⟨ "slices.siftDownOrdered[string]", by decide, Try.func74.trans (congrArg some (by kernel_rfl))⟩
  f37 := ⟨ "slices.medianAdjacentOrdered[string]", by decide, Try.func77.trans (congrArg some (by kernel_rfl))⟩
  f38 := ⟨ "slices.medianOrdered[string]", by decide, Try.func78.trans (congrArg some (by kernel_rfl))⟩
  f39 := ⟨ "cmp.isNaN[string]", by decide, Try.func79.trans (congrArg some (by kernel_rfl))⟩
  f41 := ⟨ "slices.order2Ordered[string]", by decide, Try.func80.trans (congrArg some (by kernel_rfl))⟩
  t0 := Try.underlying0
  a0 := Try.isAgg0
  z0 := Try.sizeOf0
  v0 := Try.zeroValue0
  t3 := Try.underlying3
  a3 := Try.isAgg3
  z3 := Try.sizeOf3
  v3 := Try.zeroValue3
  t4 := Try.underlying4
  a4 := Try.isAgg4
  z4 := Try.sizeOf4
  v4 := Try.zeroValue4
  t5 := Try.underlying5
  a5 := Try.isAgg5
  z5 := Try.sizeOf5
  v5 := Try.zeroValue5
  t9 := Try.underlying9
  a9 := Try.isAgg9
  z9 := Try.sizeOf9
  v9 := Try.zeroValue9
  t26 := Try.underlying55
  a26 := Try.isAgg55
  z26 := Try.sizeOf55
  v26 := Try.zeroValue55
  t27 := Try.underlying55
  a27 := Try.isAgg55
  z27 := Try.sizeOf55
  v27 := Try.zeroValue55
  t29 := Try.underlying9
  a29 := Try.isAgg9
  z29 := Try.sizeOf9
  v29 := Try.zeroValue9
  t32 := Try.underlying99
  a32 := Try.isAgg99
  z32 := Try.sizeOf99
  v32 := Try.zeroValue99
  t35 := Try.underlying101
  a35 := Try.isAgg101
  z35 := Try.sizeOf101
  v35 := Try.zeroValue101
  t36 := Try.underlying102
  a36 := Try.isAgg102
  z36 := Try.sizeOf102
  v36 := Try.zeroValue102
  t41 := Try.underlying107
  a41 := Try.isAgg107
  z41 := Try.sizeOf107
  v41 := Try.zeroValue107
  t44 := Try.underlying110
  a44 := Try.isAgg110
  z44 := Try.sizeOf110
  v44 := Try.zeroValue110
  t46 := Try.underlying23
  a46 := Try.isAgg23
  z46 := Try.sizeOf23
  v46 := Try.zeroValue23
  t53 := Try.underlying112
  a53 := Try.isAgg112
  z53 := Try.sizeOf112
  v53 := Try.zeroValue112
  t57 := Try.underlying116
  a57 := Try.isAgg116
  z57 := Try.sizeOf116
  v57 := Try.zeroValue116
  t63 := Try.underlying118
  a63 := Try.isAgg118
  z63 := Try.sizeOf118
  v63 := Try.zeroValue118
  t64 := Try.underlying119
  a64 := Try.isAgg119
  z64 := Try.sizeOf119
  v64 := Try.zeroValue119

theorem nmSorts (m : Nat) : AnyZ.SortsIn Try.prog nmSorted47_ren Fence.wide m :=
  ⟨fun blk off cap ss W hH hblk hsz => callsIn_wide.2 (AnyM.slices_Sort_string nmSort57 blk off cap ss W hH hblk hsz),
   fun p cap W => callsIn_wide.2 (AnyM.slices_Sort_string_none nmSort57 p cap W)⟩
/-- The names of files, sorted. -/
def nameL (es : FM) : List (List UInt8) := es.map fun e => e.k.data.toList
def namesE (es : FM) : List ByteArray := ((nameL es).mergeSort leB).map fun x => ⟨x.toArray⟩
theorem namesE_of {es fs : FM} (h : (nameL es).Perm (nameL fs)) : namesE es = namesE fs := by
  unfold namesE; rw [mergeSort_of_perm h]
theorem namesE_perm (es : FM) : (namesE es).Perm (es.map (·.k)) := by
  unfold namesE
  have h := (List.mergeSort_perm (nameL es) leB).map (fun x : List UInt8 => (⟨x.toArray⟩ : ByteArray))
  refine h.trans ?_
  unfold nameL
  rw [List.map_map]
  exact List.Perm.of_eq (List.map_congr_left fun e _ => by cases e with | mk k v b => cases k; simp)
theorem namesE_len (es : FM) : (namesE es).length = es.length := by rw [(namesE_perm es).length_eq, List.length_map]
def relK : Value → Option (DataW Unit × List MemPlace) := fun _ => some (.nil, [])
theorem owns_of {w : World} {r c : Nat} {es : FM} (h : w.heap[r]? = some (mapO encS BS.val es c)) (hg : GoodM es c) (hk : ∀ e ∈ es, e.k.size ≤ maxLen) (hn : es.length ≤ 1000000) :
    ∃ D0 : DataW Unit, w.ownsMap Try.prog 9 relK r es.length D0 ∧ (strKeys D0).Perm (nameL es) ∧ Maps.size D0 = es.length := by
  have hkey : ∀ e ∈ es, keyOf Try.prog 9 (encS e.k) = some (.string e.k.data.toList) := fun e he => by
    simp only [keyOf, Try.underlying9, mapKey, encS]
    rw [if_pos (hk e he)]
  have hrd : ∀ e ∈ es, Go.WideElems.rd Try.prog 9 relK (entV encS BS.val e) = some (.string e.k.data.toList, .nil) := fun e he => by
    simp only [Go.WideElems.rd, entV, hkey e he, relK, Option.bind_some, Option.map_some]
  have hl : (es.map (entV encS BS.val)).map (Go.WideElems.rg Try.prog 9 relK) = es.map fun e => ((.string e.k.data.toList, .nil) : Lit × DataW Unit) := by
    rw [List.map_map]
    exact List.map_congr_left fun e he => by simp only [Function.comp, Go.WideElems.rg, hrd e he, Option.getD_some]
  refine ⟨_, ⟨_, c, h, ⟨by simp only [List.size_toArray, List.length_map]; unfold maxLen; omega, ⟨fun x hx => ?_, ?_, ?_⟩, fun x hx => ?_⟩, by simp, rfl⟩, ?_, ?_⟩
  · obtain ⟨e, he, rfl⟩ := List.mem_map.1 (by simpa using hx)
    exact hg.lt e he
  · have hb2 := hg.born
    simp only [List.map_map]
    have : (es.map ((fun x : MapEntry => x.born) ∘ entV encS BS.val)) = es.map (·.b) := rfl
    rw [this]; exact hb2
  · have hk2 := hg.keys
    simp only [List.map_map]
    have : (es.map ((fun x : MapEntry => x.key) ∘ entV encS BS.val)) = (es.map (·.k)).map encS := by rw [List.map_map]; rfl
    rw [this]
    exact List.Pairwise.map _ (fun a b hab h => hab (by simpa [encS] using h)) hk2
  · obtain ⟨e, he, rfl⟩ := List.mem_map.1 (by simpa using hx)
    exact ⟨_, hrd e he⟩
  · have hp := Go.WideShapes.sorted_perm ((es.map (entV encS BS.val)).map (Go.WideElems.rg Try.prog 9 relK))
    have h2 := hp.map (fun p : Lit × DataW Unit => strOf p.1)
    rw [hl, List.map_map] at h2
    simp only [strKeys]
    rw [hl]
    exact h2
  · simp only [Maps.size]
    rw [(Go.WideShapes.sorted_perm _).length_eq]; simp
theorem keys48_c {w0 : World} {H : List SA} {r : Nat} : CT Try.prog w0 H 48 [.map (some r)] (α := Nat) (fun b => .func (.func 58) #[] #[.pointer (some ⟨b, 0, none⟩)]) (fun b => blk b (.cells #[.map (some r)] 61 (0, 0)) :: H) := fun w hw => by
  refine (callsIn_wide.1 (AnyZ.keys_in nmKeys48 Fence.wide 5 trivial rfl (some r) w)).mono ?_
  rintro e w' ⟨rfl, rfl⟩
  exact ⟨w.heap.size, rfl, hw.alloc _⟩
set_option maxHeartbeats 1000000 in
theorem sorted47_c {w0 : World} {H : List SA} {r b c : Nat} {es : FM} [hm : Mem w0 H r (mapO encS BS.val es c)] [hb : Mem w0 H b (.cells #[.map (some r)] 61 (0, 0))] (hg : GoodM es c) (hk : ∀ e ∈ es, e.k.size ≤ maxLen) (hn : es.length ≤ 1000000) :
    CT Try.prog w0 H 47 [.func (.func 58) #[] #[.pointer (some ⟨b, 0, none⟩)]] (α := AC) (fun y => .slice y.a (namesE es).length y.c) (fun y => row (.slice y.a (namesE es).length y.c) 9 1 ((namesE es).map encS) :: H) := fun w hw => by
  obtain ⟨D0, hown, hperm, hsz⟩ := owns_of (hm.get w hw) hg hk hn
  have hbw := hb.get w hw
  have hbl : b < w.heap.size := (Array.getElem?_eq_some_iff.1 hbw).1
  have hcell : w.cell? ⟨b, 0, none⟩ = some (.map (some r)) := by simp [World.cell?, hbw]
  have hseq : SeqGives Fence.wide 2 Try.prog 58 #[.pointer (some ⟨b, 0, none⟩)] encStr (fun ss => ss.Perm (strKeys D0)) (Maps.size D0) w :=
    AnyZ.keys_gives (ρ := nmKeys48_ren) { nmKeys48 with } Fence.wide _ trivial rfl (by omega) b r es.length D0 w hbl hcell hown
  refine (callsIn_wide.1 (AnyZ.sorted_in nmSorted47 Fence.wide 5 trivial trivial trivial trivial rfl (by omega) (nmSorts _) (enters_of Try.func57 (by kernel_rfl) rfl) 58 #[.pointer (some ⟨b, 0, none⟩)] trivial (enters_of Try.func58 (by kernel_rfl) rfl) _ _ (by rw [hsz]; unfold maxLen; omega) (by rw [hsz]; omega) w hseq)).mono ?_
  rintro e w' ⟨v, ss, rfl, hS, hrow, hnil, hbe⟩
  have hss : ss.mergeSort leB = (nameL es).mergeSort leB := mergeSort_of_perm (hS.trans hperm)
  have hnl : ss.length = (namesE es).length := by rw [(hS.trans hperm).length_eq, namesE_len]; simp [nameL]
  have hxs : (ss.mergeSort leB).map encStr = (namesE es).map encS := by
    rw [hss, namesE, List.map_map]; rfl
  obtain ⟨h1, h2⟩ := hrow
  replace h2 : (v = .slice none 0 0 ∧ ss.length = 0) ∨ ∃ g cap cur, v = .slice (some ⟨g, 0, none⟩) ss.length cap ∧ w.heap.size ≤ g ∧ w'.heap[g]? = some (.cells cur 9 (0, 0)) ∧ ss.length ≤ cap ∧ cap ≤ maxLen ∧ cur.size = cap * 1 ∧ cur.toList.take (ss.length * 1) = (ss.mergeSort leB).map encStr := h2
  rw [hxs] at h2
  rcases h2 with ⟨rfl, h0⟩ | ⟨g, cap, cur, rfl, hge, hgc, q1, q2, q3, q4⟩
  · refine ⟨⟨none, 0⟩, by rw [← hnl, h0], hw.fresh hbe.os hbe.tape hbe.output hbe.size hbe.block ?_ (by simp [row, rowFp]) (by simp [row, rowFp])⟩
    exact ⟨none, 0, 0, by rw [← hnl, h0], by rw [List.length_map, ← hnl, h0], Nat.le_refl _, by unfold maxLen; omega, fun _ => rfl, fun h => absurd rfl h⟩
  · have hgl : g < w'.heap.size := (Array.getElem?_eq_some_iff.1 hgc).1
    refine ⟨⟨some ⟨g, 0, none⟩, cap⟩, by rw [hnl], hw.fresh hbe.os hbe.tape hbe.output hbe.size hbe.block ?_ ?_ ?_⟩
    · exact ⟨some ⟨g, 0, none⟩, (namesE es).length, cap, rfl, by simp, by omega, q2, (fun h => by cases h), fun _ => ⟨g, cur, rfl, hgc, q3, by rw [← hnl]; exact q4⟩⟩
    · by_cases h0 : cap = 0 <;> simp [row, rowFp, h0]
    · intro b' hb'
      by_cases h0 : cap = 0
      · simp [row, rowFp, h0] at hb'
      · obtain rfl : b' = g := by simpa [row, rowFp, h0] using hb'
        exact ⟨hge, hgl⟩
attribute [local irreducible] namesE
set_option maxHeartbeats 1000000 in
theorem dnames_c {w0 : World} {H : List SA} {p : Nat} {s : DS} {N M : Nat} (hok : s.Ok N M) (hN : N ≤ 1000000) (hkz : ∀ e ∈ s.e2, e.k.size ≤ maxLen) :
    CT Try.prog w0 (DS.H p s H) 26 [.pointer (some ⟨p, 0, none⟩)] (α := AC) (fun y => .slice y.a (namesE s.e2).length y.c) (fun y => row (.slice y.a (namesE s.e2).length y.c) 9 1 ((namesE s.e2).map encS) :: DS.H p s H) := by
  refine CT_intro Try.func26 rfl Try.ntmps26 rfl ?_
  refine T_seq ?_
  refine T_region ?_
  refine TL_q (Qt_assign (.slice _ _ _) rfl) rfl ?_
  refine TL_nil ?_
  refine X_then ?_
  refine T_seq ?_
  refine T_seq ?_
  refine T_region ?_
  refine TL_q (Qt_move (.pointer _) rfl) rfl ?_
  refine TL_q (Qt_ptr_nil rfl rfl Try.underlying28) rfl ?_
  refine TL_nil ?_
  refine X_then ?_
  refine T_cond rfl (fun h4 => ?_) (fun h4 => ?_)
  ·
    have p4 := h4
    try simp only [decide_eq_true_eq, decide_eq_false_iff_not, Bool.not_eq_true', Bool.not_eq_false', Option.isNone_iff_eq_none, ne_eq, Decidable.not_not, Int.not_lt, Int.not_le] at p4
    cases h4
  ·
    have p4 := h4
    try simp only [decide_eq_true_eq, decide_eq_false_iff_not, Bool.not_eq_true', Bool.not_eq_false', Option.isNone_iff_eq_none, ne_eq, Decidable.not_not, Int.not_lt, Int.not_le] at p4
    refine T_skip ?_
    refine X_then ?_
    refine T_seq ?_
    refine T_region ?_
    refine TL_q (Qt_move (.pointer _) rfl) rfl ?_
    refine TL_q (Qt_nilCheck rfl) rfl ?_
    refine TL_q (Qt_fieldAddr 2 rfl rfl) rfl ?_
    refine TL_q (Qt_load1 rfl) rfl ?_
    refine TL_e rfl (Ef_call (keys48_c (r := s.r2)) rfl (fun x9 => ?_))
    refine TL_e rfl (Ef_call (sorted47_c (r := s.r2) (b := x9) (es := s.e2) (c := s.c2) hok.good2 hkz (by have := hok.n2; omega)) rfl (fun x10 => ?_))
    refine TL_q (Qt_assign (.slice _ _ _) rfl) rfl ?_
    refine TL_nil ?_
    refine X_then ?_
    refine T_ret ?_
    exact X_ret x10 [_] Try.results26 ⟨rfl, trivial⟩ rfl (Subs.st inferInstance)
end Go.Proofs.Ytededghplnoajaa
