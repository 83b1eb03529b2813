/- Walks of package logs: numbers of segments, sorted; Open. -/
import Derived.Test.YtgfbdcjamalhhaaGreatDoorLt
namespace Go.Proofs.YtgfbdcjamalhhaaGreatDoor
open Go.RowKit Go.Sx
set_option maxRecDepth 100000
set_option linter.unusedSimpArgs false
set_option linter.unusedVariables false
open Go.Sort Go.Shelf
theorem equalIn_ifnil {P : Program} {t : TypeId} {ms : Array (String × TypeId)} (k : Nat) (ht : P.underlying t = some (.interface ms)) (w : World) : (Op.equalIn (k + 1) t .nilIface .nilIface).run P w = .ok true w := by simp [Op.equalIn, run_underlying ht]
theorem Qt_err_nil {P : Program} {w0 : World} {σ : Env} {H : List SA} {d : Option Nat} {ty : TypeId} {pos : String} {aft : Array Edge} {g : Option (Nat × Bool)} {t t' : TypeId} {x : Operand} {ms : Array (String × TypeId)} (hx : ev σ x = .nilIface) (ht : P.underlying t = some (.interface ms)) :
    Qt P w0 H σ ⟨d, .binOp .neq t x (.const .nilIface) t', ty, pos, aft, g⟩ (.bool false) := fun w _ => by
  have hy : ev σ (.const .nilIface) = .nilIface := rfl
  have h' : (Op.equalIn Op.maxDepth t .nilIface .nilIface).run P w = .ok true w := equalIn_ifnil 9999 ht w
  simp [execOp, hx, hy, eqGuard, binOp, Op.equal, h']
theorem take_putI (cur : Array Value) (ts : List Int) (h : ts.length ≤ cur.size) : (Go.Sort.putCells (Value.int .i64) 0 ts.toArray cur).toList.take ts.length = ts.map (Value.int .i64) := by
  apply List.ext_getElem?
  intro k
  by_cases hk : k < ts.length
  · rw [List.getElem?_take, if_pos hk]
    have hk2 : k < cur.size := by omega
    simp [Go.Sort.putCells, hk, hk2]
  · rw [List.getElem?_eq_none (by rw [List.length_take]; omega), List.getElem?_eq_none (by rw [List.length_map]; omega)]
theorem sortI_c {w0 : World} {H : List SA} {a : Option Addr} {c : Nat} {l m : List Nat} (hn : l.length ≤ 1000) (hp : l.Perm m) (hs : m.Pairwise (· ≤ ·)) :
    CT Tryz.prog w0 (row (.slice a l.length c) 3 1 (l.flatMap encN) :: H) 37 [.slice a l.length c] (α := Unit) (fun _ => .tuple #[]) (fun _ => row (.slice a l.length c) 3 1 (m.flatMap encN) :: H) := fun w hw => by
  have hrow : rowP (.slice a l.length c) 3 1 (l.flatMap encN) w := hw.holds (row (.slice a l.length c) 3 1 (l.flatMap encN)) (by simp)
  by_cases h0 : l.length = 0
  · have hl : l = [] := List.eq_nil_of_length_eq_zero h0
    have hm : m = [] := List.eq_nil_of_length_eq_zero (by rw [← hp.length_eq]; exact h0)
    subst hl; subst hm
    refine (AnyM.slices_Sort_int_none nmSortI a c w).mono ?_
    rintro e w' ⟨rfl, rfl⟩
    exact ⟨(), rfl, hw⟩
  · obtain ⟨a', n', c', hv, hl, hn', hc, ha, hx⟩ := hrow
    simp only [Value.slice.injEq] at hv
    obtain ⟨rfl, rfl, rfl⟩ := hv
    obtain ⟨g, cur, rfl, hg, hsz, htk⟩ := hx (by omega)
    have hc0 : c ≠ 0 := by omega
    have hgl : g < w.heap.size := (Array.getElem?_eq_some_iff.1 hg).1
    obtain ⟨zs, hzs⟩ : ∃ zs : List Int, zs = l.map fun n : Nat => (n : Int) := ⟨_, rfl⟩
    have hzl : zs.length = l.length := by rw [hzs, List.length_map]
    have hH : Holds (Value.int .i64) w g 0 zs.toArray := fun j hj => by
      have hj' : j < l.length := by simpa [hzl] using hj
      constructor
      · have h1 : (cur.toList.take (l.length * 1))[j]? = some (.int .i64 (l[j] : Int)) := by rw [htk]; exact encN_get l j hj'
        rw [List.getElem?_take, if_pos (by omega)] at h1
        have h2 : zs.toArray[j]! = (l[j] : Int) := by
          rw [getElem!_pos _ j (by simpa using hj)]
          simp [hzs]
        simp only [World.cell?, hg, Nat.zero_add, h2]
        simpa using h1
      · simp [World.frozen?, hg]
    have hsort : (zs.mergeSort fun x y => decide (x ≤ y)) = m.map fun n : Nat => (n : Int) := by
      refine List.Perm.eq_of_pairwise (le := fun x y : Int => x ≤ y) (fun a b _ _ h1 h2 => Int.le_antisymm h1 h2) ?_ ?_ ?_
      · have h := List.pairwise_mergeSort (le := fun x y : Int => decide (x ≤ y)) (fun a b c h1 h2 => by simp only [decide_eq_true_eq] at *; omega) (fun a b => by simp only [Bool.or_eq_true, decide_eq_true_eq]; omega) zs
        exact h.imp fun h => of_decide_eq_true h
      · exact List.Pairwise.map _ (fun a b h => by omega) hs
      · exact (List.mergeSort_perm zs _).trans (by rw [hzs]; exact hp.map _)
    have hC := AnyM.slices_Sort_int nmSortI g 0 c zs w hH hgl (by omega)
    rw [hzl, hsort] at hC
    refine hC.mono ?_
    rintro e w' ⟨rfl, n, os, rfl⟩
    have hml : (m.map fun n : Nat => (n : Int)).length = l.length := by rw [List.length_map, hp.length_eq]
    have hnew : (grow (putRow (Value.int .i64) (Sort.ahead w n) g 0 (m.map fun n : Nat => (n : Int)).toArray) os).heap[g]? = some (.cells (Go.Sort.putCells (Value.int .i64) 0 (m.map fun n : Nat => (n : Int)).toArray cur) 3 (0, 0)) := by
      rw [heap_grow_old _ _ (by rw [size_putRow]; exact hgl)]
      show (w.heap.modify g (onCells _))[g]? = _
      rw [Array.getElem?_modify, if_pos rfl, hg]
      rfl
    refine ⟨(), rfl, hw.swap rfl rfl rfl (by show w.heap.size ≤ ((putRow (Value.int .i64) (Sort.ahead w n) g 0 _).heap ++ os).size; rw [Array.size_append, size_putRow]; exact Nat.le_add_right _ _) (fun k hk hkn => ?_) ?_ (by show (rowFp (.slice (some ⟨g, 0, none⟩) l.length c)).Nodup; simp [rowFp, hc0]) (fun b hb => ?_)⟩
    · have hkg : k ≠ g := fun he => hkn (by show k ∈ rowFp (.slice (some ⟨g, 0, none⟩) l.length c); rw [he]; simp [rowFp]; omega)
      rw [heap_grow_old _ _ (by rw [size_putRow]; exact hk)]
      show (w.heap.modify g (onCells _))[k]? = _
      rw [Array.getElem?_modify, if_neg (fun h => hkg h.symm)]
    · refine ⟨some ⟨g, 0, none⟩, l.length, c, rfl, by rw [encN_len, ← hp.length_eq]; omega, hn', hc, (fun h => by cases h), fun _ => ⟨g, _, rfl, hnew, by rw [← hsz]; simp [Go.Sort.putCells], ?_⟩⟩
      have h := take_putI cur (m.map fun n : Nat => (n : Int)) (by rw [hml, hsz]; omega)
      rw [hml] at h
      rw [Nat.mul_one, h, List.map_map]
      clear h hnew hml hC hsort hp hs
      induction m with
      | nil => rfl
      | cons x m ih => rw [List.map_cons, List.flatMap_cons, ih]; rfl
    · have hb2 : b ∈ rowFp (.slice (some ⟨g, 0, none⟩) l.length c) := hb
      refine ⟨.inl hb2, ?_⟩
      have hbg : b = g := by simpa [rowFp, hc0] using hb2
      rw [hbg]
      show g < ((putRow (Value.int .i64) (Sort.ahead w n) g 0 _).heap ++ os).size
      rw [Array.size_append, size_putRow]
      show g < w.heap.size + os.size
      omega
theorem nm_list (pre : ByteArray) (n : Nat) : (nmB pre n).data.toList = (pre ++ dotB).data.toList ++ Lib.decDigits n := by
  unfold nmB
  rw [ByteArray.data_append, Array.toList_append]
theorem nm_has (pre : ByteArray) (n : Nat) : Lib.hasPrefix (nmB pre n).data.toList (pre ++ dotB).data.toList = true := by
  unfold Lib.hasPrefix
  rw [nm_list, List.isPrefixOf_iff_prefix]
  exact List.prefix_append _ _
theorem nm_trim (pre : ByteArray) (n : Nat) : Lib.trimPrefix (nmB pre n).data.toList (pre ++ dotB).data.toList = Lib.decDigits n := by
  unfold Lib.trimPrefix
  rw [nm_has, if_pos rfl, nm_list, List.drop_left]
theorem atoi1 : ∀ i : Fin 10, Lib.atoiAll [UInt8.ofNat (48 + i.val)] = .ok (i.val : Int) := by decide +kernel
theorem atoi2 : ∀ i : Fin 100, ¬ i.val < 10 → Lib.atoiAll [UInt8.ofNat (48 + i.val / 10), UInt8.ofNat (48 + i.val % 10)] = .ok (i.val : Int) := by decide +kernel
theorem atoi_dec {n : Nat} (h : n < 100) : Lib.atoiAll (Lib.decDigits n) = .ok (n : Int) := by
  by_cases h1 : n < 10
  · rw [Lib.decDigits_one h1]; exact atoi1 ⟨n, h1⟩
  · rw [Lib.decDigits_two h1 h]; exact atoi2 ⟨n, h⟩ h1
attribute [local irreducible] toldB recsB nmB sha
set_option maxHeartbeats 1000000 in
theorem number_c {w0 : World} {H : List SA} {pre : ByteArray} (hp : pre.size ≤ 1000) {n : Nat} (h1 : 1 ≤ n) (hn : n < 100) :
    CT Tryz.prog w0 (H) 36 [.string pre, .string (nmB pre n)] (α := Unit) (fun _ => .int .i64 (n : Int)) (fun _ => H) := by
  refine CT_intro Tryz.func36 rfl Tryz.ntmps36 rfl ?_
  refine T_seq ?_
  refine T_region ?_
  refine TL_q (Qt_assign (.int .i64 _) rfl) rfl ?_
  refine TL_nil ?_
  refine X_then ?_
  refine T_seq ?_
  refine T_region ?_
  refine TL_q (Qt_move (.string _) rfl) rfl ?_
  refine TL_q (Qt_move (.string _) rfl) rfl ?_
  refine TL_q (Qt_str_op (v := .string (pre ++ dotB)) rfl rfl (str_add (b := dotB) (by have : dotB.size = 1 := rfl; omega))) rfl ?_
  refine TL_e rfl (Ef_call (cut_c (s := nmB pre n) (p := pre ++ dotB)) rfl (fun x13 => ?_))
  rw [nm_trim, nm_has]
  refine TL_q (Qt_move (.tuple _) rfl) rfl ?_
  refine TL_q (Qt_extract rfl) rfl ?_
  refine TL_q (Qt_extract rfl) rfl ?_
  refine TL_q (Qt_assign (.string _) rfl) rfl ?_
  refine TL_q (Qt_assign (.bool _) rfl) rfl ?_
  refine TL_nil ?_
  refine X_then ?_
  refine T_seq ?_
  refine T_region ?_
  refine TL_q (Qt_move (.string _) rfl) rfl ?_
  refine TL_e rfl (Ef_call (atoi_c (s := (⟨(Lib.decDigits n).toArray⟩ : ByteArray)) (by have := nm_size n hn; omega) (v := (n : Int)) (atoi_dec hn)) rfl (fun x18 => ?_))
  refine TL_q (Qt_move (.tuple _) rfl) rfl ?_
  refine TL_q (Qt_extract rfl) rfl ?_
  refine TL_q (Qt_extract rfl) rfl ?_
  refine TL_q (Qt_assign (.int .i64 _) rfl) rfl ?_
  refine TL_q (Qt_assign _ rfl) rfl ?_
  refine TL_nil ?_
  refine X_then ?_
  refine T_seq ?_
  refine T_seq ?_
  refine T_region ?_
  refine TL_q (Qt_move (.bool _) rfl) rfl ?_
  refine TL_q (Qt_not rfl) rfl ?_
  refine TL_q (Qt_move (.bool _) rfl) rfl ?_
  refine TL_split 23 rfl (fun h23 => ?_) (fun h23 => ?_)
  ·
    have p23 := h23
    try simp only [decide_eq_true_eq, decide_eq_false_iff_not, Bool.not_eq_true', Bool.not_eq_false', Option.isNone_iff_eq_none, ne_eq, Decidable.not_not, Int.not_lt, Int.not_le] at p23
    exact absurd h23 (by decide)
  ·
    have p23 := h23
    try simp only [decide_eq_true_eq, decide_eq_false_iff_not, Bool.not_eq_true', Bool.not_eq_false', Option.isNone_iff_eq_none, ne_eq, Decidable.not_not, Int.not_lt, Int.not_le] at p23
    refine TL_take rfl rfl h23 ?_
    refine TL_q (Qt_move _ rfl) rfl ?_
    refine TL_take rfl rfl h23 ?_
    refine TL_q (Qt_err_nil rfl Tryz.underlying154) rfl ?_
    refine TL_q (Qt_pick_f (.bool _) rfl h23 rfl) rfl ?_
    refine TL_q (Qt_move (.bool _) rfl) rfl ?_
    refine TL_split 27 rfl (fun h27 => ?_) (fun h27 => ?_)
    ·
      have p27 := h27
      try simp only [decide_eq_true_eq, decide_eq_false_iff_not, Bool.not_eq_true', Bool.not_eq_false', Option.isNone_iff_eq_none, ne_eq, Decidable.not_not, Int.not_lt, Int.not_le] at p27
      exact absurd h27 (by decide)
    ·
      have p27 := h27
      try simp only [decide_eq_true_eq, decide_eq_false_iff_not, Bool.not_eq_true', Bool.not_eq_false', Option.isNone_iff_eq_none, ne_eq, Decidable.not_not, Int.not_lt, Int.not_le] at p27
      refine TL_take rfl rfl h27 ?_
      refine TL_q (Qt_move (.int .i64 _) rfl) rfl ?_
      refine TL_take rfl rfl h27 ?_
      refine TL_q (Qt_lss rfl rfl) rfl ?_
      refine TL_q (Qt_pick_f (.bool _) rfl h27 rfl) rfl ?_
      refine TL_q (Qt_move (.bool _) rfl) rfl ?_
      refine TL_split 31 rfl (fun h31 => ?_) (fun h31 => ?_)
      ·
        have p31 := h31
        try simp only [decide_eq_true_eq, decide_eq_false_iff_not, Bool.not_eq_true', Bool.not_eq_false', Option.isNone_iff_eq_none, ne_eq, Decidable.not_not, Int.not_lt, Int.not_le] at p31
        exact absurd h31 (by simp; omega)
      ·
        have p31 := h31
        try simp only [decide_eq_true_eq, decide_eq_false_iff_not, Bool.not_eq_true', Bool.not_eq_false', Option.isNone_iff_eq_none, ne_eq, Decidable.not_not, Int.not_lt, Int.not_le] at p31
        refine TL_take rfl rfl h31 ?_
        refine TL_q (Qt_move (.int .i64 _) rfl) rfl ?_
        refine TL_take rfl rfl h31 ?_
        refine TL_e rfl (Ef_call (itoa_c hn) rfl (fun x33 => ?_))
        refine TL_take rfl rfl h31 ?_
        refine TL_q (Qt_move (.string _) rfl) rfl ?_
        refine TL_take rfl rfl h31 ?_
        refine TL_q (Qt_str_neq rfl rfl) rfl ?_
        refine TL_q (Qt_pick_f (.bool _) rfl h31 rfl) rfl ?_
        refine TL_nil ?_
        refine X_then ?_
        refine T_cond rfl (fun h36 => ?_) (fun h36 => ?_)
        ·
          have p36 := h36
          try simp only [decide_eq_true_eq, decide_eq_false_iff_not, Bool.not_eq_true', Bool.not_eq_false', Option.isNone_iff_eq_none, ne_eq, Decidable.not_not, Int.not_lt, Int.not_le] at p36
          exact absurd h36 (by simp)
        ·
          have p36 := h36
          try simp only [decide_eq_true_eq, decide_eq_false_iff_not, Bool.not_eq_true', Bool.not_eq_false', Option.isNone_iff_eq_none, ne_eq, Decidable.not_not, Int.not_lt, Int.not_le] at p36
          refine T_skip ?_
          refine X_then ?_
          refine T_seq ?_
          refine T_region ?_
          refine TL_q (Qt_move (.int .i64 _) rfl) rfl ?_
          refine TL_q (Qt_assign (.int .i64 _) rfl) rfl ?_
          refine TL_nil ?_
          refine X_then ?_
          refine T_ret ?_
          exact X_ret () [_] Tryz.results36 ⟨rfl, trivial⟩ rfl (Subs.st inferInstance)
/-- What is read of segments, in their order. -/
@[reducible] def segT (fs : Nat → Nat) (rc : Nat → List (List UInt8)) (t : LS) (n : Nat) : LS := { scanT t (fs n) (rc n).length with siz := (recsB (fs n) (rc n)).length }
def runS (fs : Nat → Nat) (rc : Nat → List (List UInt8)) : List Nat → LS → LS
  | [], t => t
  | n :: ns, t => runS fs rc ns (segT fs rc t n)
def okS (fs : Nat → Nat) (rc : Nat → List (List UInt8)) : List Nat → LS → Prop
  | [], _ => True
  | n :: ns, t => (rc n ≠ [] → t.bg = true → t.nx = fs n) ∧ okS fs rc ns (segT fs rc t n)
theorem runS_step (fs : Nat → Nat) (rc : Nat → List (List UInt8)) : ∀ (m : List Nat) (t : LS) (k : Nat) (hk : k < m.length), runS fs rc (m.take (k + 1)) t = segT fs rc (runS fs rc (m.take k) t) m[k]
  | n :: m, t, 0, _ => rfl
  | n :: m, t, k + 1, hk => runS_step fs rc m (segT fs rc t n) k (by simpa using hk)
theorem okS_at (fs : Nat → Nat) (rc : Nat → List (List UInt8)) : ∀ (m : List Nat) (t : LS) (k : Nat) (hk : k < m.length), okS fs rc m t → rc m[k] ≠ [] → (runS fs rc (m.take k) t).bg = true → (runS fs rc (m.take k) t).nx = fs m[k]
  | n :: m, t, 0, _, h => h.1
  | n :: m, t, k + 1, hk, h => okS_at fs rc m (segT fs rc t n) k (by simpa using hk) h.2
theorem runS_fix (fs : Nat → Nat) (rc : Nat → List (List UInt8)) : ∀ (m : List Nat) (t : LS), (runS fs rc m t).ga = t.ga ∧ (runS fs rc m t).gc = t.gc ∧ (runS fs rc m t).segs = t.segs
  | [], t => ⟨rfl, rfl, rfl⟩
  | n :: m, t => runS_fix fs rc m (segT fs rc t n)
theorem runS_nx (fs : Nat → Nat) (rc : Nat → List (List UInt8)) (B : Nat) : ∀ (m : List Nat) (t : LS), t.nx ≤ B → (∀ n ∈ m, fs n + (rc n).length ≤ B) → (runS fs rc m t).nx ≤ B
  | [], t, h, _ => h
  | n :: m, t, h, hm => runS_nx fs rc B m (segT fs rc t n) (by
      show nxS t (fs n) (rc n).length ≤ B
      unfold nxS
      split
      · exact h
      · exact hm n (by simp)) (fun x hx => hm x (by simp [hx]))
theorem St.datPB {w0 w : World} {H : List SA} {fp : List Nat} {a : Option Addr} {c : Nat} {ls : List BS} (h : St w0 (dat fp (Deep.leads (PS.mk a c ls)) :: H) w) : St w0 (dat fp ⟨ls, [], []⟩ :: H) w :=
  h.turn rfl fun hp => ⟨fun y hy => hp.e ⟨a, c, ls⟩ (by simp [Deep.leads]) y hy, fun _ h => (by cases h), fun _ h => (by cases h), fun _ h => (by cases h)⟩
theorem flat_step {m : List Nat} {k : Nat} (hk : k < m.length) (rc : Nat → List (List UInt8)) : (m.take (k + 1)).flatMap rc = (m.take k).flatMap rc ++ rc m[k] := by
  rw [List.take_add_one, List.getElem?_eq_getElem hk, List.flatMap_append]
  simp
theorem runS_0 (fs : Nat → Nat) (rc : Nat → List (List UInt8)) (m : List Nat) (t : LS) : runS fs rc (m.take 0) t = t := rfl
attribute [local irreducible] runS
end Go.Proofs.YtgfbdcjamalhhaaGreatDoor
