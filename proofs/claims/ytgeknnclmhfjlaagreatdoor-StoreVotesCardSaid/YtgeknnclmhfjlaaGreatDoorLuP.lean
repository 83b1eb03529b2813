/- Walks of package logs: numbers of segments, sorted; Open. -/
import Derived.Test.YtgeknnclmhfjlaaGreatDoorSgP
import Derived.Test.YtgeknnclmhfjlaaGreatDoorLoP
import Derived.Test.YtgeknnclmhfjlaaGreatDoorDkP
namespace Go.Proofs.YtgeknnclmhfjlaaGreatDoor
section
open Go.RowKit Go.Sx
set_option maxRecDepth 100000
set_option linter.unusedSimpArgs false
set_option linter.unusedVariables false
open Go.Sort Go.Shelf
theorem equalIn_ifnil {P : Program} {t : TypeId} {ms : Array (String × TypeId)} (k : Nat) (ht : P.underlying t = some (.interface ms)) (w : World) : (Op.equalIn (k + 1) t .nilIface .nilIface).run P w = .ok true w := by simp [Op.equalIn, run_underlying ht]
theorem Qt_err_nil {P : Program} {w0 : World} {σ : Env} {H : List SA} {d : Option Nat} {ty : TypeId} {pos : String} {aft : Array Edge} {g : Option (Nat × Bool)} {t t' : TypeId} {x : Operand} {ms : Array (String × TypeId)} (hx : ev σ x = .nilIface) (ht : P.underlying t = some (.interface ms)) :
 Qt P w0 H σ ⟨d, .binOp .neq t x (.const .nilIface) t', ty, pos, aft, g⟩ (.bool false) := fun w _ => by
 have hy : ev σ (.const .nilIface) = .nilIface := rfl
 have h' : (Op.equalIn Op.maxDepth t .nilIface .nilIface).run P w = .ok true w := equalIn_ifnil 9999 ht w
 simp [execOp, hx, hy, eqGuard, binOp, Op.equal, h']
theorem take_putI (cur : Array Value) (ts : List Int) (h : ts.length ≤ cur.size) : (Go.Sort.putCells (Value.int .i64) 0 ts.toArray cur).toList.take ts.length = ts.map (Value.int .i64) := by
 apply List.ext_getElem?
 intro k
 by_cases hk : k < ts.length
 · rw [List.getElem?_take, if_pos hk]
   have hk2 : k < cur.size := by omega
   simp [Go.Sort.putCells, hk, hk2]
 · rw [List.getElem?_eq_none (by rw [List.length_take]; omega), List.getElem?_eq_none (by rw [List.length_map]; omega)]
theorem sortI_c {w0 : World} {H : List SA} {a : Option Addr} {c : Nat} {l m : List Nat} (hn : l.length ≤ 1000) (hp : l.Perm m) (hs : m.Pairwise (· ≤ ·)) :
 CT Tryz.prog w0 (row (.slice a l.length c) 3 1 (l.flatMap encN) :: H) 63 [.slice a l.length c] (α := Unit) (fun _ => .tuple #[]) (fun _ => row (.slice a l.length c) 3 1 (m.flatMap encN) :: H) := fun w hw => by
 have hrow : rowP (.slice a l.length c) 3 1 (l.flatMap encN) w := hw.holds (row (.slice a l.length c) 3 1 (l.flatMap encN)) (by simp)
 by_cases h0 : l.length = 0
 · have hl : l = [] := List.eq_nil_of_length_eq_zero h0
   have hm : m = [] := List.eq_nil_of_length_eq_zero (by rw [← hp.length_eq]; exact h0)
   subst hl; subst hm
   refine (AnyM.slices_Sort_int_none nmSortI a c w).mono ?_
   rintro e w' ⟨rfl, rfl⟩
   exact ⟨(), rfl, hw⟩
 · obtain ⟨a', n', c', hv, hl, hn', hc, ha, hx⟩ := hrow
   simp only [Value.slice.injEq] at hv
   obtain ⟨rfl, rfl, rfl⟩ := hv
   obtain ⟨g, cur, rfl, hg, hsz, htk⟩ := hx (by omega)
   have hc0 : c ≠ 0 := by omega
   have hgl : g < w.heap.size := (Array.getElem?_eq_some_iff.1 hg).1
   obtain ⟨zs, hzs⟩ : ∃ zs : List Int, zs = l.map fun n : Nat => (n : Int) := ⟨_, rfl⟩
   have hzl : zs.length = l.length := by rw [hzs, List.length_map]
   have hH : Holds (Value.int .i64) w g 0 zs.toArray := fun j hj => by
    have hj' : j < l.length := by simpa [hzl] using hj
    constructor
    · have h1 : (cur.toList.take (l.length * 1))[j]? = some (.int .i64 (l[j] : Int)) := by rw [htk]; exact encN_get l j hj'
      rw [List.getElem?_take, if_pos (by omega)] at h1
      have h2 : zs.toArray[j]! = (l[j] : Int) := by
       rw [getElem!_pos _ j (by simpa using hj)]
       simp [hzs]
      simp only [World.cell?, hg, Nat.zero_add, h2]
      simpa using h1
    · simp [World.frozen?, hg]
   have hsort : (zs.mergeSort fun x y => decide (x ≤ y)) = m.map fun n : Nat => (n : Int) := by
    refine List.Perm.eq_of_pairwise (le := fun x y : Int => x ≤ y) (fun a b _ _ h1 h2 => Int.le_antisymm h1 h2) ?_ ?_ ?_
    · have h := List.pairwise_mergeSort (le := fun x y : Int => decide (x ≤ y)) (fun a b c h1 h2 => by simp only [decide_eq_true_eq] at *; omega) (fun a b => by simp only [Bool.or_eq_true, decide_eq_true_eq]; omega) zs
      exact h.imp fun h => of_decide_eq_true h
    · exact List.Pairwise.map _ (fun a b h => by omega) hs
    · exact (List.mergeSort_perm zs _).trans (by rw [hzs]; exact hp.map _)
   have hC := AnyM.slices_Sort_int nmSortI g 0 c zs w hH hgl (by omega)
   rw [hzl, hsort] at hC
   refine hC.mono ?_
   rintro e w' ⟨rfl, n, os, rfl⟩
   have hml : (m.map fun n : Nat => (n : Int)).length = l.length := by rw [List.length_map, hp.length_eq]
   have hnew : (grow (putRow (Value.int .i64) (Sort.ahead w n) g 0 (m.map fun n : Nat => (n : Int)).toArray) os).heap[g]? = some (.cells (Go.Sort.putCells (Value.int .i64) 0 (m.map fun n : Nat => (n : Int)).toArray cur) 3 (0, 0)) := by
    rw [heap_grow_old _ _ (by rw [size_putRow]; exact hgl)]
    show (w.heap.modify g (onCells _))[g]? = _
    rw [Array.getElem?_modify, if_pos rfl, hg]
    rfl
   refine ⟨(), rfl, hw.swap rfl rfl rfl (by show w.heap.size ≤ ((putRow (Value.int .i64) (Sort.ahead w n) g 0 _).heap ++ os).size; rw [Array.size_append, size_putRow]; exact Nat.le_add_right _ _) (fun k hk hkn => ?_) ?_ (by show (rowFp (.slice (some ⟨g, 0, none⟩) l.length c)).Nodup; simp [rowFp, hc0]) (fun b hb => ?_)⟩
   · have hkg : k ≠ g := fun he => hkn (by show k ∈ rowFp (.slice (some ⟨g, 0, none⟩) l.length c); rw [he]; simp [rowFp]; omega)
     rw [heap_grow_old _ _ (by rw [size_putRow]; exact hk)]
     show (w.heap.modify g (onCells _))[k]? = _
     rw [Array.getElem?_modify, if_neg (fun h => hkg h.symm)]
   · refine ⟨some ⟨g, 0, none⟩, l.length, c, rfl, by rw [encN_len, ← hp.length_eq]; omega, hn', hc, (fun h => by cases h), fun _ => ⟨g, _, rfl, hnew, by rw [← hsz]; simp [Go.Sort.putCells], ?_⟩⟩
     have h := take_putI cur (m.map fun n : Nat => (n : Int)) (by rw [hml, hsz]; omega)
     rw [hml] at h
     rw [Nat.mul_one, h, List.map_map]
     clear h hnew hml hC hsort hp hs
     induction m with
     | nil => rfl
     | cons x m ih => rw [List.map_cons, List.flatMap_cons, ih]; rfl
   · have hb2 : b ∈ rowFp (.slice (some ⟨g, 0, none⟩) l.length c) := hb
     refine ⟨.inl hb2, ?_⟩
     have hbg : b = g := by simpa [rowFp, hc0] using hb2
     rw [hbg]
     show g < ((putRow (Value.int .i64) (Sort.ahead w n) g 0 _).heap ++ os).size
     rw [Array.size_append, size_putRow]
     show g < w.heap.size + os.size
     omega
theorem nm_list (pre : ByteArray) (n : Nat) : (nmB pre n).data.toList = (pre ++ dotB).data.toList ++ Lib.decDigits n := by
 unfold nmB
 rw [ByteArray.data_append, Array.toList_append]
theorem nm_has (pre : ByteArray) (n : Nat) : Lib.hasPrefix (nmB pre n).data.toList (pre ++ dotB).data.toList = true := by
 unfold Lib.hasPrefix
 rw [nm_list, List.isPrefixOf_iff_prefix]
 exact List.prefix_append _ _
theorem nm_trim (pre : ByteArray) (n : Nat) : Lib.trimPrefix (nmB pre n).data.toList (pre ++ dotB).data.toList = Lib.decDigits n := by
 unfold Lib.trimPrefix
 rw [nm_has, if_pos rfl, nm_list, List.drop_left]
theorem atoi1 : ∀ i : Fin 10, Lib.atoiAll [UInt8.ofNat (48 + i.val)] = .ok (i.val : Int) := by decide +kernel
theorem atoi2 : ∀ i : Fin 100, ¬ i.val < 10 → Lib.atoiAll [UInt8.ofNat (48 + i.val / 10), UInt8.ofNat (48 + i.val % 10)] = .ok (i.val : Int) := by decide +kernel
theorem atoi_dec {n : Nat} (h : n < 100) : Lib.atoiAll (Lib.decDigits n) = .ok (n : Int) := by
 by_cases h1 : n < 10
 · rw [Lib.decDigits_one h1]; exact atoi1 ⟨n, h1⟩
 · rw [Lib.decDigits_two h1 h]; exact atoi2 ⟨n, h⟩ h1
attribute [local irreducible] toldB recsB nmB sha
set_option maxHeartbeats 1000000 in
theorem number_c {w0 : World} {H : List SA} {pre : ByteArray} (hp : pre.size ≤ 1000) {n : Nat} (h1 : 1 ≤ n) (hn : n < 100) :
 CT Tryz.prog w0 (H) 62 [.string pre, .string (nmB pre n)] (α := Unit) (fun _ => .int .i64 (n : Int)) (fun _ => H) := by
 refine CT_intro Tryz.func62 rfl Tryz.ntmps62 rfl ?_
 refine T2 (Qai rfl rfl (T4 (zq (zm (.string _) rfl) rfl (zq (zm (.string _) rfl) rfl (zq (Qt_str_op (v := .string (pre ++ dotB)) rfl rfl (str_add (b := dotB) (by have : dotB.size = 1 := rfl; omega))) rfl ?_)))))
 refine ze rfl (zc (cut_c (s := nmB pre n) (p := pre ++ dotB)) rfl (fun x13 => ?_))
 rw [nm_trim, nm_has]
 refine zq (zm (.tuple _) rfl) rfl (zq (Qt_extract rfl) rfl (zq (Qt_extract rfl) rfl (zq (za (.string _) rfl) rfl (Qab rfl rfl (T4 ?_)))))
 refine zq (zm (.string _) rfl) rfl ?_
 refine ze rfl (zc (atoi_c (s := (⟨(Lib.decDigits n).toArray⟩ : ByteArray)) (by have := nm_size n hn; omega) (v := (n : Int)) (atoi_dec hn)) rfl (fun x18 => ?_))
 refine zq (zm (.tuple _) rfl) rfl (zq (Qt_extract rfl) rfl (zq (Qt_extract rfl) rfl (Qai rfl rfl (zq (za _ rfl) rfl (TX (zS (T2 ?_)))))))
 refine Qmb rfl rfl (zq (Qt_not rfl) rfl (Qmb rfl rfl ?_))
 refine TL_split 23 rfl (fun h23 => ?_) (fun h23 => ?_)
 ·
  have p23 := h23
  try simp only [dp] at p23
  exact absurd h23 (by decide)
 have p23 := h23
 try simp only [dp] at p23
 refine zt rfl rfl h23 (zq (zm _ rfl) rfl (zt rfl rfl h23 (zq (Qt_err_nil rfl Tryz.underlying194) rfl (zq (zF (.bool _) rfl h23 rfl) rfl (Qmb rfl rfl ?_)))))
 refine TL_split 27 rfl (fun h27 => ?_) (fun h27 => ?_)
 ·
  have p27 := h27
  try simp only [dp] at p27
  exact absurd h27 (by decide)
 have p27 := h27
 try simp only [dp] at p27
 refine zt rfl rfl h27 (Qmi rfl rfl (zt rfl rfl h27 (zq (Qt_lss rfl rfl) rfl (zq (zF (.bool _) rfl h27 rfl) rfl (Qmb rfl rfl ?_)))))
 refine TL_split 31 rfl (fun h31 => ?_) (fun h31 => ?_)
 ·
  have p31 := h31
  try simp only [dp] at p31
  exact absurd h31 (by simp; omega)
 have p31 := h31
 try simp only [dp] at p31
 refine zt rfl rfl h31 (Qmi rfl rfl (zt rfl rfl h31 ?_))
 refine ze rfl (zc (itoa_c hn) rfl (fun x33 => ?_))
 refine zt rfl rfl h31 (zq (zm (.string _) rfl) rfl (zt rfl rfl h31 (zq (Qt_str_neq rfl rfl) rfl (zq (zF (.bool _) rfl h31 rfl) rfl (TX ?_)))))
 refine zC rfl (fun h36 => ?_) (fun h36 => ?_)
 ·
  have p36 := h36
  try simp only [dp] at p36
  exact absurd h36 (by simp)
 have p36 := h36
 try simp only [dp] at p36
 refine S4 (Qmi rfl rfl (Qai rfl rfl (TX (zQ ?_))))
 exact zX () [_] Tryz.results62 ⟨rfl, trivial⟩ rfl SB
end
section
open Go.RowKit Go.Sx
set_option maxRecDepth 100000
set_option linter.unusedSimpArgs false
set_option linter.unusedVariables false
def chL (fs : Nat → Nat) (rc : Nat → List (List UInt8)) : List Nat → Nat → Nat → Prop
 | [], a, b => a = b
 | n :: ns, a, b => fs n = a ∧ chL fs rc ns (a + (rc n).length) b
theorem chL_le {fs : Nat → Nat} {rc : Nat → List (List UInt8)} : ∀ {ns : List Nat} {a b : Nat}, chL fs rc ns a b → a ≤ b
 | [], a, b, h => by have : a = b := h; omega
 | n :: ns, a, b, h => by have := chL_le h.2; omega
theorem chL_bound {fs : Nat → Nat} {rc : Nat → List (List UInt8)} : ∀ {ns : List Nat} {a b : Nat}, chL fs rc ns a b → ∀ n ∈ ns, a ≤ fs n ∧ fs n + (rc n).length ≤ b
 | [], _, _, _, n, h => by cases h
 | x :: ns, a, b, h, n, hn => by
  have h2 := chL_le h.2
  rcases List.mem_cons.1 hn with rfl | hn
  · rw [h.1]; exact ⟨Nat.le_refl _, h2⟩
  · have := chL_bound h.2 n hn; omega
theorem chL_app {fs : Nat → Nat} {rc : Nat → List (List UInt8)} {x : Nat} : ∀ {ns : List Nat} {a b : Nat}, chL fs rc (ns ++ [x]) a b ↔ chL fs rc ns a (fs x) ∧ b = fs x + (rc x).length
 | [], a, b => by
  show (fs x = a ∧ a + (rc x).length = b) ↔ (a = fs x ∧ b = fs x + (rc x).length)
  constructor
  · rintro ⟨h1, h2⟩; exact ⟨h1.symm, by rw [h1]; exact h2.symm⟩
  · rintro ⟨h1, h2⟩; exact ⟨h1.symm, by rw [h1]; exact h2.symm⟩
 | n :: ns, a, b => by
  show (fs n = a ∧ chL fs rc (ns ++ [x]) (a + (rc n).length) b) ↔ ((fs n = a ∧ chL fs rc ns (a + (rc n).length) (fs x)) ∧ b = fs x + (rc x).length)
  rw [chL_app, and_assoc]
theorem chL_congr {fs fs' : Nat → Nat} {rc rc' : Nat → List (List UInt8)} : ∀ {ns : List Nat} {a b : Nat}, (∀ n ∈ ns, fs' n = fs n ∧ rc' n = rc n) → chL fs rc ns a b → chL fs' rc' ns a b
 | [], _, _, _, h => h
 | n :: ns, a, b, he, h => by
  have h1 := he n (by simp)
  exact ⟨by rw [h1.1]; exact h.1, by rw [h1.2]; exact chL_congr (fun x hx => he x (by simp [hx])) h.2⟩
theorem flat_congr {rc rc' : Nat → List (List UInt8)} : ∀ {ns : List Nat}, (∀ n ∈ ns, rc' n = rc n) → ns.flatMap rc' = ns.flatMap rc
 | [], _ => rfl
 | n :: ns, h => by rw [List.flatMap_cons, List.flatMap_cons, h n (by simp), flat_congr fun x hx => h x (by simp [hx])]
theorem nm_inj {pre : ByteArray} {n k : Nat} (hn : n < 100) (hk : k < 100) (h : nmB pre n = nmB pre k) : n = k := by
 have h1 := congrArg (fun b : ByteArray => b.data.toList) h
 simp only [nm_list] at h1
 have h2 := List.append_cancel_left h1
 have h3 := (atoi_dec hn).symm.trans ((congrArg Lib.atoiAll h2).trans (atoi_dec hk))
 have h4 : (n : Int) = (k : Int) := by injection h3
 omega
theorem nm_size3 {pre : ByteArray} (n : Nat) (hn : n < 100) : (nmB pre n).size ≤ pre.size + 3 ∧ 1 ≤ (nmB pre n).size := by
 have h := nm_size n hn
 have h2 : dotB.size = 1 := rfl
 unfold nmB
 rw [ByteArray.size_append, ByteArray.size_append, h2]
 omega
theorem last_app (l : List Nat) (x : Nat) : lastN (l ++ [x]) = x := by unfold lastN; simp
theorem last_mem {l : List Nat} (h : l.length ≠ 0) : lastN l ∈ l := by
 unfold lastN
 cases l with
 | nil => simp at h
 | cons x l => rw [List.getLastD_eq_getLast?, List.getLast?_eq_some_getLast (by simp)]; exact List.getLast_mem _
theorem split_last {l : List Nat} (h : l.length ≠ 0) : ∃ i, l = i ++ [lastN l] := by
 have hne : l ≠ [] := fun he => h (by rw [he]; rfl)
 refine ⟨l.dropLast, ?_⟩
 unfold lastN
 rw [List.getLastD_eq_getLast?, List.getLast?_eq_some_getLast hne]
 exact (List.dropLast_concat_getLast hne).symm
theorem new_le (l : List Nat) : newN l ≤ lastN l + 1 := by unfold newN; split <;> omega
theorem choose_map {α β : Type} (f : α → β) (P : α → Prop) : ∀ l : List β, (∀ y ∈ l, ∃ x, P x ∧ y = f x) → ∃ xs : List α, l = xs.map f ∧ ∀ x ∈ xs, P x
 | [], _ => ⟨[], rfl, fun _ h => by cases h⟩
 | y :: l, h => by
  obtain ⟨x, hx, hy⟩ := h y (by simp)
  obtain ⟨xs, h1, h2⟩ := choose_map f P l (fun z hz => h z (by simp [hz]))
  exact ⟨x :: xs, by rw [hy, h1]; rfl, fun z hz => by rcases List.mem_cons.1 hz with rfl | hz; exact hx; exact h2 z hz⟩
theorem getE_some {es : FM} {e : Ent ByteArray BS} (h : e ∈ es) : getE es e.k ≠ none := by
 intro hn
 simp only [getE, Option.map_eq_none_iff] at hn
 have := List.find?_eq_none.1 hn e h
 simp at this
theorem newN_gt {segs : List Nat} (h : ∀ n ∈ segs, 1 ≤ n ∧ n ≤ lastN segs) : ∀ n ∈ segs, n < newN segs := fun n hn => by
 have h1 := (h n hn).2
 unfold newN
 rw [if_neg (by intro h0; rw [List.eq_nil_of_length_eq_zero h0] at hn; cases hn)]
 omega
theorem newN_pos (segs : List Nat) : 1 ≤ newN segs := by unfold newN; split <;> omega
/-- What the files of a log hold: segments of whole records, numbered one behind the other, and behind the last one's some bytes more. -/
structure LogF (pre : ByteArray) (f : Cont) (segs : List Nat) (fs : Nat → Nat) (rc : Nat → List (List UInt8)) (t : List UInt8) (all : List (List UInt8)) (nx : Nat) : Prop where
 keys : ∀ key, f key ≠ none → ∃ n ∈ segs, key = nmB pre n
 file : ∀ n ∈ segs, f (nmB pre n) = some (recsB (fs n) (rc n) ++ (if n = lastN segs then t else []))
 rise : segs.Pairwise (· < ·)
 rng : ∀ n ∈ segs, 1 ≤ n ∧ n ≤ lastN segs
 chain : ∃ a, 1 ≤ a ∧ chL fs rc segs a nx
 tot : all = segs.flatMap rc
theorem LogF.start {pre : ByteArray} {fs : Nat → Nat} {rc : Nat → List (List UInt8)} : LogF pre (fun _ => none) [] fs rc [] [] 1 :=
 ⟨fun key h => absurd rfl h, (fun _ h => by cases h), List.Pairwise.nil, (fun _ h => by cases h), ⟨1, Nat.le_refl _, rfl⟩, rfl⟩
/-- Bytes are put behind the last segment's. -/
theorem LogF.tail1 {pre : ByteArray} {f : Cont} {segs : List Nat} {fs : Nat → Nat} {rc : Nat → List (List UInt8)} {all : List (List UInt8)} {nx : Nat} (h : LogF pre f segs fs rc [] all nx) (hs : segs.length ≠ 0) (hlast : lastN segs < 100) {a : ActV} (hk : a.kind = 1) (hn : a.name = nmB pre (lastN segs)) :
 LogF pre (doF f a) segs fs rc a.b.l all nx := by
 have hm := last_mem hs
 refine ⟨fun key hk2 => ?_, fun n hn2 => ?_, h.rise, h.rng, h.chain, h.tot⟩
 · by_cases hq : key = a.name
   · exact ⟨_, hm, hq.trans hn⟩
   · have e : doF f a key = f key := by unfold doF; rw [if_pos hk, if_neg hq]
     rw [e] at hk2; exact h.keys key hk2
 · by_cases hq : n = lastN segs
   · have hf := h.file _ hm
     rw [if_pos rfl, List.append_nil] at hf
     rw [hq, if_pos rfl]
     unfold doF
     rw [if_pos hk, hn, if_pos rfl, hf]; rfl
   · rw [if_neg hq]
     have hf := h.file n hn2
     rw [if_neg hq] at hf
     have h1 := (h.rng n hn2).2
     have hne : nmB pre n ≠ a.name := fun he => hq (nm_inj (by omega) hlast (he.trans hn))
     unfold doF
     rw [if_pos hk, if_neg hne]; exact hf
/-- Bytes are written as a new segment. -/
theorem LogF.tail2 {pre : ByteArray} {f : Cont} {segs : List Nat} {fs : Nat → Nat} {rc : Nat → List (List UInt8)} {all : List (List UInt8)} {nx : Nat} (h : LogF pre f segs fs rc [] all nx) (hlast : lastN segs < 99) {a : ActV} (hk : a.kind = 2) (hn : a.name = nmB pre (newN segs)) :
 ∃ fs' rc', LogF pre (doF f a) (segs ++ [newN segs]) fs' rc' a.b.l all nx := by
 have hgt := newN_gt h.rng
 have hnl := new_le segs
 have hcg : ∀ n ∈ segs, (if n = newN segs then nx else fs n) = fs n ∧ (if n = newN segs then [] else rc n) = rc n := fun n hn => by
  have := hgt n hn
  exact ⟨if_neg (by omega), if_neg (by omega)⟩
 have hd : ∀ key, doF f a key = if key = a.name then some a.b.l else f key := fun key => by
  unfold doF; rw [if_neg (by omega), if_pos hk]
 obtain ⟨a0, ha0, hch⟩ := h.chain
 refine ⟨fun n => if n = newN segs then nx else fs n, fun n => if n = newN segs then [] else rc n, fun key hk2 => ?_, fun n hn2 => ?_, ?_, fun n hn2 => ?_, ⟨a0, ha0, ?_⟩, ?_⟩
 · rw [hd] at hk2
   by_cases hq : key = a.name
   · exact ⟨_, by simp, hq.trans hn⟩
   · rw [if_neg hq] at hk2
     obtain ⟨n, hn3, h4⟩ := h.keys key hk2
     exact ⟨n, by simp [hn3], h4⟩
 · rw [last_app, hd]
   rcases List.mem_append.1 hn2 with hn2 | hn2
   · have h1 := hgt n hn2
     have h2 := (h.rng n hn2).2
     have hf := h.file n hn2
     rw [show (if n = lastN segs then ([] : List UInt8) else []) = [] from by split <;> rfl] at hf
     have hne : nmB pre n ≠ a.name := fun he => absurd (nm_inj (by omega) (by omega) (he.trans hn)) (by omega)
     rw [if_neg hne, (hcg n hn2).1, (hcg n hn2).2, if_neg (show n ≠ newN segs by omega)]
     exact hf
   · obtain rfl : n = newN segs := by simpa using hn2
     rw [if_pos hn.symm, if_pos rfl, if_pos rfl, if_pos rfl]; rfl
 · rw [List.pairwise_append]
   exact ⟨h.rise, List.pairwise_singleton _ _, fun a ha b hb => by
    obtain rfl : b = newN segs := by simpa using hb
    exact hgt a ha⟩
 · rw [last_app]
   rcases List.mem_append.1 hn2 with hn2 | hn2
   · exact ⟨(h.rng n hn2).1, by have := hgt n hn2; omega⟩
   · obtain rfl : n = newN segs := by simpa using hn2
     exact ⟨newN_pos _, Nat.le_refl _⟩
 · rw [chL_app]
   refine ⟨?_, ?_⟩
   · rw [if_pos rfl]; exact chL_congr hcg hch
   · rw [if_pos rfl, if_pos rfl]; rfl
 · rw [List.flatMap_append, flat_congr fun n hn => (hcg n hn).2, ← h.tot]
   simp
/-- What is behind the last segment's records is one record more. -/
theorem LogF.whole {pre : ByteArray} {f : Cont} {segs : List Nat} {fs : Nat → Nat} {rc : Nat → List (List UInt8)} {all : List (List UInt8)} {nx : Nat} {r : List UInt8} (h : LogF pre f segs fs rc (toldB nx r) all nx) (hs : segs.length ≠ 0) :
 ∃ rc', LogF pre f segs fs rc' [] (all ++ [r]) (nx + 1) := by
 obtain ⟨L, hL⟩ : ∃ L, L = lastN segs := ⟨_, rfl⟩
 have hm : L ∈ segs := by rw [hL]; exact last_mem hs
 obtain ⟨i, hi⟩ := split_last hs
 rw [← hL] at hi
 obtain ⟨a0, ha0, hch⟩ := h.chain
 rw [hi, chL_app] at hch
 have hni : ∀ n ∈ i, n ≠ L := fun n hn h2 => by
  have hp2 := h.rise
  rw [hi, List.pairwise_append] at hp2
  have := hp2.2.2 n hn L (by simp)
  omega
 have hcg : ∀ n ∈ i, fs n = fs n ∧ (if n = L then rc n ++ [r] else rc n) = rc n := fun n hn => ⟨rfl, if_neg (hni n hn)⟩
 refine ⟨fun n => if n = L then rc n ++ [r] else rc n, h.keys, fun n hn => ?_, h.rise, h.rng, ⟨a0, ha0, ?_⟩, ?_⟩
 · have hf := h.file n hn
   rw [← hL] at hf ⊢
   by_cases hq : n = L
   · subst hq
     rw [if_pos rfl] at hf
     rw [hf, if_pos rfl, if_pos rfl, List.append_nil, recsB_app, ← hch.2]
     simp only [recsB, List.append_nil]
   · rw [if_neg hq] at hf
     rw [hf, if_neg hq, if_neg hq]
 · rw [hi, chL_app]
   refine ⟨chL_congr hcg hch.1, ?_⟩
   rw [if_pos rfl, List.length_append, ← Nat.add_assoc, ← hch.2]
   rfl
 · rw [h.tot, hi, List.flatMap_append, List.flatMap_append, flat_congr fun n hn => (hcg n hn).2]
   simp
/-- The thing that an append of a record does to a disk. -/
def IsAct (pre : ByteArray) (segs : List Nat) (nx : Nat) (a : ActV) (r : List UInt8) : Prop :=
 (segs.length ≠ 0 ∧ a.kind = 1 ∧ a.name = nmB pre (lastN segs) ∧ a.b.l = toldB nx r) ∨ (a.kind = 2 ∧ a.name = nmB pre (newN segs) ∧ a.b.l = toldB nx r)
theorem LogF.act {pre : ByteArray} {f : Cont} {segs : List Nat} {fs : Nat → Nat} {rc : Nat → List (List UInt8)} {all : List (List UInt8)} {nx : Nat} {r : List UInt8} {a : ActV} (h : LogF pre f segs fs rc [] all nx) (ha : IsAct pre segs nx a r) (hlast : lastN segs < 99) :
 ∃ fs' rc', LogF pre (doF f a) (if a.kind = 1 then segs else segs ++ [newN segs]) fs' rc' [] (all ++ [r]) (nx + 1) := by
 rcases ha with ⟨hs, hk, hn, hb⟩ | ⟨hk, hn, hb⟩
 · have h1 := h.tail1 hs (by omega) hk hn
   rw [hb] at h1
   obtain ⟨rc', h2⟩ := h1.whole hs
   rw [if_pos hk]
   exact ⟨fs, rc', h2⟩
 · obtain ⟨fs', rc', h1⟩ := h.tail2 hlast hk hn
   rw [hb] at h1
   obtain ⟨rc2, h2⟩ := h1.whole (by simp)
   rw [if_neg (by omega)]
   exact ⟨fs', rc2, h2⟩
theorem LogF.torn {pre : ByteArray} {f : Cont} {segs : List Nat} {fs : Nat → Nat} {rc : Nat → List (List UInt8)} {all : List (List UInt8)} {nx : Nat} {r : List UInt8} {a : ActV} (h : LogF pre f segs fs rc [] all nx) (ha : IsAct pre segs nx a r) (hlast : lastN segs < 99) (m : Nat) :
 ∃ segs' fs' rc', LogF pre (doF f (leftA a m)) segs' fs' rc' ((toldB nx r).take m) all nx ∧ lastN segs' ≤ lastN segs + 1 ∧ segs'.length ≤ segs.length + 1 ∧ segs'.length ≠ 0 := by
 rcases ha with ⟨hs, hk, hn, hb⟩ | ⟨hk, hn, hb⟩
 · have h1 := h.tail1 (a := leftA a m) hs (by omega) hk hn
   rw [show (leftA a m).b.l = (toldB nx r).take m from by rw [← hb]; rfl] at h1
   exact ⟨segs, fs, rc, h1, by omega, by omega, hs⟩
 · obtain ⟨fs', rc', h1⟩ := h.tail2 (a := leftA a m) hlast hk hn
   rw [show (leftA a m).b.l = (toldB nx r).take m from by rw [← hb]; rfl] at h1
   exact ⟨_, fs', rc', h1, by rw [last_app]; exact new_le segs, by simp, by simp⟩
/-- A disk on which a log lies whose last call may have been cut short: what is synced, and at most one thing that is pending. -/
def Hurt (pre : ByteArray) (s : DS) (all : List (List UInt8)) (ex : Option (List UInt8)) (B : Nat) : Prop :=
 ∃ segs fs rc nx, LogF pre (cont s.e1) segs fs rc [] all nx ∧ lastN segs ≤ B ∧ segs.length ≤ B ∧ nx ≤ 1 + B ∧ ((s.pend = [] ∧ ex = none) ∨ ∃ a r, s.pend = [a] ∧ ex = some r ∧ IsAct pre segs nx a r)
theorem crF_nil (kp : Nat) (torn cut : Int) (f : Cont) : crF kp torn cut f [] = f := rfl
theorem crF_one (kp : Nat) (torn cut : Int) (f : Cont) (a : ActV) : crF kp torn cut f [a] = match lftA kp torn cut a 0 with | some b => doF f b | none => f := crF_snoc kp torn cut f [] a
/-- What a crash leaves of it. -/
theorem Hurt.crash {pre : ByteArray} {s s' : DS} {all : List (List UInt8)} {ex : Option (List UInt8)} {B N M kp : Nat} {torn cut : Int} (h : Hurt pre s all ex B) (hB : B < 98) (hr : ∀ r, ex = some r → r.length ≤ 40000) (hc : CrashX s N M kp torn cut s') :
 ∃ segs fs rc t nx all', LogF pre (cont s'.e2) segs fs rc t all' nx ∧ (readE t = none ∧ t.length ≤ 40100) ∧ lastN segs ≤ B + 1 ∧ segs.length ≤ B + 1 ∧ nx ≤ 2 + B ∧ (segs.length = 0 → t = []) ∧ (all' = all ∨ ∃ r, ex = some r ∧ all' = all ++ [r]) := by
 obtain ⟨segs, fs, rc, nx, hl, h1, h2, h3, hp⟩ := h
 have hcon := hc.con
 rcases hp with ⟨hp, he⟩ | ⟨a, r, hp, he, ha⟩
 · rw [hp, crF_nil] at hcon
   exact ⟨segs, fs, rc, [], nx, all, by rw [hcon]; exact hl, ⟨readE_nil, by simp⟩, by omega, by omega, by omega, fun _ => rfl, .inl rfl⟩
 · rw [hp, crF_one] at hcon
   have hwhole : ∃ segs' fs' rc', LogF pre (doF (cont s.e1) a) segs' fs' rc' [] (all ++ [r]) (nx + 1) ∧ lastN segs' ≤ B + 1 ∧ segs'.length ≤ B + 1 := by
    obtain ⟨fs', rc', h4⟩ := hl.act ha (by omega)
    refine ⟨_, fs', rc', h4, ?_, ?_⟩
    · split
      · omega
      · rw [last_app]; have := new_le segs; omega
    · split
      · omega
      · simp; omega
   have htorn : ∀ m, m < (toldB nx r).length → ∃ segs fs rc t nx all', LogF pre (doF (cont s.e1) (leftA a m)) segs fs rc t all' nx ∧ (readE t = none ∧ t.length ≤ 40100) ∧ lastN segs ≤ B + 1 ∧ segs.length ≤ B + 1 ∧ nx ≤ 2 + B ∧ (segs.length = 0 → t = []) ∧ (all' = all ∨ ∃ r, ex = some r ∧ all' = all ++ [r]) := fun m hm => by
    obtain ⟨segs', fs', rc', h4, h5, h6, h7⟩ := hl.torn ha (by omega) m
    exact ⟨segs', fs', rc', _, nx, all, h4, ⟨readE_torn (by omega) (by have := hr r he; omega) hm, by rw [List.length_take]; have := hr r he; have := (toldB_len nx (by omega) r (by omega)).1; omega⟩, by omega, by omega, by omega, fun h0 => absurd h0 h7, .inl rfl⟩
   have hall : ∃ segs fs rc t nx all', LogF pre (doF (cont s.e1) a) segs fs rc t all' nx ∧ (readE t = none ∧ t.length ≤ 40100) ∧ lastN segs ≤ B + 1 ∧ segs.length ≤ B + 1 ∧ nx ≤ 2 + B ∧ (segs.length = 0 → t = []) ∧ (all' = all ∨ ∃ r, ex = some r ∧ all' = all ++ [r]) := by
    obtain ⟨segs', fs', rc', h4, h5, h6⟩ := hwhole
    exact ⟨segs', fs', rc', [], _, _, h4, ⟨readE_nil, by simp⟩, h5, h6, by omega, fun _ => rfl, .inr ⟨r, he, rfl⟩⟩
   have hab : a.b.l = toldB nx r := by rcases ha with ⟨-, -, -, h⟩ | ⟨-, -, h⟩ <;> exact h
   have hdo : ∀ m, (toldB nx r).length ≤ m → doF (cont s.e1) (leftA a m) = doF (cont s.e1) a := fun m hm => by
    have e : (leftA a m).b.l = a.b.l := by show a.b.l.take m = _; exact List.take_of_length_le (by rw [hab]; exact hm)
    unfold doF
    rw [e]
    rfl
   rw [hcon]
   generalize hl2 : lftA kp torn cut a 0 = o
   cases o with
   | none => exact ⟨segs, fs, rc, [], nx, all, hl, ⟨readE_nil, by simp⟩, by omega, by omega, by omega, fun _ => rfl, .inl rfl⟩
   | some b =>
    simp only
    unfold lftA at hl2
    split at hl2
    · injection hl2 with hl2
      rw [← hl2]
      rcases Nat.lt_or_ge (cutN cut a.b.l.length).toNat (toldB nx r).length with hm | hm
      · exact htorn _ hm
      · rw [hdo _ hm]; exact hall
    · split at hl2
      · injection hl2 with hl2
        rw [← hl2]; exact hall
      · cases hl2
/-- The names of such files. -/
theorem LogF.names {pre : ByteArray} {s : DS} {segs : List Nat} {fs : Nat → Nat} {rc : Nat → List (List UInt8)} {t : List UInt8} {all : List (List UInt8)} {nx : Nat} (h : LogF pre (cont s.e2) segs fs rc t all nx) (hlast : lastN segs < 100) (hg : GoodM s.e2 s.c2) : ∃ ns : List Nat, namesE s.e2 = ns.map (nmB pre) ∧ ns.Perm segs := by
 have hp := namesE_perm s.e2
 obtain ⟨ns, h1, h2⟩ := choose_map (nmB pre) (fun n => n ∈ segs) (namesE s.e2) (fun y hy => by
  obtain ⟨e, he, rfl⟩ := List.mem_map.1 (hp.mem_iff.1 hy)
  refine h.keys _ (fun h0 => getE_some he ?_)
  unfold cont at h0
  simpa using h0)
 have hlt : ∀ n ∈ segs, n < 100 := fun n hn => by have := (h.rng n hn).2; omega
 refine ⟨ns, h1, (List.perm_ext_iff_of_nodup ?_ (h.rise.imp fun h => Nat.ne_of_lt h)).2 fun n => ⟨h2 n, fun hn => ?_⟩⟩
 · have hnd : (namesE s.e2).Nodup := hp.nodup_iff.2 hg.keys
   rw [h1] at hnd
   exact (List.pairwise_map.1 hnd).imp fun h he => h (by rw [he])
 · have hf := h.file n hn
   unfold cont at hf
   obtain ⟨x, hx1, -⟩ := Option.map_eq_some_iff.1 hf
   obtain ⟨e, he, hk, -⟩ := getE_memF hx1
   have hm : nmB pre n ∈ namesE s.e2 := hp.mem_iff.2 (List.mem_map.2 ⟨e, he, hk⟩)
   rw [h1] at hm
   obtain ⟨k, hk1, hk2⟩ := List.mem_map.1 hm
   rw [← nm_inj (hlt k (h2 k hk1)) (hlt n hn) hk2]; exact hk1
attribute [local irreducible] toldB recsB nmB namesE lastN newN sha
end
section
open Go.RowKit Go.Sx
set_option maxRecDepth 100000
set_option linter.unusedSimpArgs false
set_option linter.unusedVariables false
theorem oldE_le (es : FM) (k : ByteArray) : (oldE es k).l.length ≤ sizeE es := by
  unfold oldE
  cases hg : getE es k with
  | none => exact Nat.zero_le _
  | some v =>
    obtain ⟨e, he, -, rfl⟩ := getE_memF hg
    show e.v.l.length ≤ _
    have : ∀ l : FM, e ∈ l → e.v.l.length ≤ sizeE l := by
      intro l
      induction l with
      | nil => intro h; cases h
      | cons x l ih =>
        intro h
        have hs : sizeE (x :: l) = x.v.l.length + sizeE l := rfl
        rw [hs]
        rcases List.mem_cons.1 h with rfl | h
        · omega
        · have := ih h; omega
    exact this es he
theorem DoR.okM {s s' : DS} {N M : Nat} {a : ActV} {e : Int} (h : DoR s a s' e) (hok : s.Ok N M) (ha : a.b ∈ s.bs) (hb : a.b.l.length ≤ 2000000) (hx2 : (newB s.e2 a).length ≤ M) : s'.Ok (N + 1) M := by
  rcases h with ⟨-, -, rfl⟩ | ⟨-, -, x, pa, pc, fp, hx, rfl⟩
  · have h1 := hok.mono (Nat.le_add_right N 1) (Nat.le_refl M)
    exact ⟨h1.good1, h1.good2, h1.mem1, h1.mem2, h1.memp, h1.zero, h1.len, h1.short, h1.n1, h1.n2, h1.np, h1.room0, h1.room1, burnF_le h1.fuse1⟩
  · refine ⟨hok.good1, doE_good hok.good2, fun e he => List.mem_cons_of_mem _ (hok.mem1 e he), doE_vals hok.mem2 hok.zero, fun b hb' => ?_, List.mem_cons_of_mem _ hok.zero, fun y hy => ?_, fun b hb' => ?_, by have := hok.n1; show s.e1.length ≤ _; omega, by have h1 := doE_len (es := s.e2) (a := a) (x := x) (c := s.c2); have := hok.n2; show (doE s.e2 a x s.c2).length ≤ _; omega, by have := hok.np; show (s.pend ++ [a]).length ≤ _; simp; omega, hok.room0, hok.room1, burnF_le hok.fuse1⟩
    · rcases List.mem_append.1 hb' with h1 | h1
      · exact List.mem_cons_of_mem _ (hok.memp b h1)
      · obtain rfl : b = a := by simpa using h1
        exact List.mem_cons_of_mem _ ha
    · rcases List.mem_cons.1 hy with rfl | hy
      · rw [hx]; exact hx2
      · exact hok.len y hy
    · rcases List.mem_append.1 hb' with h1 | h1
      · exact hok.short b h1
      · obtain rfl : b = a := by simpa using h1
        exact hb
theorem newB_mv {es : FM} {a : ActV} (h1 : a.kind ≠ 1) (h2 : a.kind ≠ 2) : newB es a = [] := by unfold newB; rw [if_neg h1, if_neg h2]
theorem AppR.okM {k : Int} {s s' : DS} {N M : Nat} {nm : ByteArray} {b : List UInt8} {e : Int} {less : Nat} (h : AppR k less s nm b s' e) (hk : (k = 1 ∧ less = 0) ∨ k = 2) (hok : s.Ok N M) (hb : b.length ≤ 2000000) (hM : 2000000 ≤ M) : s'.Ok (N + 1) M := by
  have h1 := hok.mono (Nat.le_add_right N 1) (Nat.le_refl M)
  rcases h with ⟨-, -, rfl⟩ | ⟨-, -, -, rfl⟩ | ⟨-, -, -, -, rfl⟩ | ⟨-, -, hf, cl, fp, hcl, hd⟩
  · exact h1
  · exact h1
  · exact h1
  · refine hd.okM (hok.addB (by rw [hcl]; omega)) (List.mem_cons_self ..) (by show cl.l.length ≤ 2000000; rw [hcl]; exact hb) ?_
    show (newB s.e2 ⟨k, nm, ⟨#[]⟩, cl⟩).length ≤ M
    rcases hk with ⟨rfl, rfl⟩ | rfl
    · have e1 : newB s.e2 ⟨1, nm, ⟨#[]⟩, cl⟩ = (oldE s.e2 nm).l ++ cl.l := if_pos rfl
      rw [e1, List.length_append, hcl]
      have h2 := oldE_le s.e2 nm
      have h3 := hok.room1
      have h4 : (b.length : Int) ≤ s.room - (sizeE s.e2 : Int) + ((0 : Nat) : Int) := of_decide_eq_true hf
      omega
    · have e1 : newB s.e2 ⟨2, nm, ⟨#[]⟩, cl⟩ = cl.l := rfl
      rw [e1, hcl]; omega
theorem MvR.okM {s s' : DS} {N M : Nat} {a : ActV} {ok : Bool} {e : Int} (h : MvR a ok s s' e) (hok : s.Ok N M) (ha : a.b = zB) (h1 : a.kind ≠ 1) (h2 : a.kind ≠ 2) : s'.Ok (N + 1) M := by
  have h3 := hok.mono (Nat.le_add_right N 1) (Nat.le_refl M)
  rcases h with ⟨-, -, rfl⟩ | ⟨-, -, -, rfl⟩ | ⟨-, -, -, -, rfl⟩ | ⟨-, -, -, hd⟩
  · exact h3
  · exact h3
  · exact h3
  · exact hd.okM hok (by rw [ha]; exact hok.zero) (by rw [ha]; exact Nat.zero_le _) (by rw [newB_mv h1 h2]; exact Nat.zero_le _)
/-- A disk that is up, and doesn't fail. -/
structure Live (s : DS) : Prop where
  down : s.down = false
  fuse : s.fuse = -1
theorem Live.burn {s : DS} (h : Live s) : burnD s.fuse s.down = false := by rw [h.fuse, h.down]; rfl
theorem DoR.live {s s' : DS} {a : ActV} {e : Int} (h : DoR s a s' e) (hl : Live s) {c : Nat} (hg : GoodM s.e2 c) : e = 0 ∧ Live s' ∧ s'.room = s.room ∧ s'.e1 = s.e1 ∧ s'.pend = s.pend ++ [a] ∧ cont s'.e2 = doF (cont s.e2) a := by
  rcases h with ⟨h, -⟩ | ⟨-, he, x, pa, pc, fp, hx, rfl⟩
  · rw [hl.burn] at h; cases h
  · exact ⟨he, ⟨rfl, by show burnF s.fuse = -1; rw [hl.fuse]; rfl⟩, rfl, rfl, rfl, cont_doE hg hx _⟩
theorem AppR.liveF {k : Int} {less : Nat} {s s' : DS} {nm : ByteArray} {b : List UInt8} {e : Int} (h : AppR k less s nm b s' e) (hl : Live s) (hn : namedB nm = true) {c : Nat} (hg : GoodM s.e2 c) :
    (e = 4 ∧ s' = s) ∨ (e = 0 ∧ Live s' ∧ s'.room = s.room ∧ s'.e1 = s.e1 ∧ ∃ cl : BS, cl.l = b ∧ s'.pend = s.pend ++ [⟨k, nm, ⟨#[]⟩, cl⟩] ∧ cont s'.e2 = doF (cont s.e2) ⟨k, nm, ⟨#[]⟩, cl⟩) := by
  rcases h with ⟨h, -⟩ | ⟨-, h, -, -⟩ | ⟨-, -, -, he, rfl⟩ | ⟨-, -, -, cl, fp, hcl, hd⟩
  · rw [hl.down] at h; cases h
  · rw [hn] at h; cases h
  · exact .inl ⟨he, rfl⟩
  · obtain ⟨h1, h2, h3, h4, h5, h6⟩ := hd.live ⟨hl.down, hl.fuse⟩ (c := c) hg
    exact .inr ⟨h1, h2, h3, h4, cl, hcl, h5, h6⟩
theorem MvR.liveF {s s' : DS} {a : ActV} {ok : Bool} {e : Int} (h : MvR a ok s s' e) (hl : Live s) (hk : ok = true) (hh : hasE s.e2 a.name = true) {c : Nat} (hg : GoodM s.e2 c) : e = 0 ∧ Live s' ∧ s'.room = s.room ∧ cont s'.e2 = doF (cont s.e2) a := by
  rcases h with ⟨h, -⟩ | ⟨-, h, -, -⟩ | ⟨-, -, h, -⟩ | ⟨-, -, -, hd⟩
  · rw [hl.down] at h; cases h
  · rw [hk] at h; cases h
  · rw [hh] at h; cases h
  · obtain ⟨h1, h2, h3, h4, h5, h6⟩ := hd.live hl hg
    exact ⟨h1, h2, h3, h6⟩
theorem SyncR.liveF {s s' : DS} (h : SyncR s s') (hl : Live s) : Live s' ∧ s'.room = s.room ∧ s'.pend = [] ∧ s'.e1 = s.e2 ∧ s'.e2 = s.e2 := by
  rcases h with ⟨h, -⟩ | ⟨-, q1, q2, rfl⟩
  · rw [hl.burn] at h; cases h
  · exact ⟨⟨rfl, by show burnF s.fuse = -1; rw [hl.fuse]; rfl⟩, rfl, rfl, rfl, rfl⟩
theorem has_cont {es : FM} {k : ByteArray} {l : List UInt8} (h : cont es k = some l) : hasE es k = true := by rw [cont_has, h]; rfl
def tmpX : ByteArray := ⟨#[46, 116, 109, 112]⟩
def tmpB (pre : ByteArray) : ByteArray := pre ++ tmpX
theorem dec_head (n : Nat) (hn : n < 100) : ∃ c l, Lib.decDigits n = c :: l ∧ c.toNat < 58 := by
  by_cases h : n < 10
  · rw [Lib.decDigits_one h]; refine ⟨_, _, rfl, ?_⟩; simp; omega
  · rw [Lib.decDigits_two h hn]; refine ⟨_, _, rfl, ?_⟩; simp; omega
theorem tmp_ne {pre : ByteArray} {n : Nat} (hn : n < 100) : tmpB pre ≠ nmB pre n := fun h => by
  have h1 := congrArg (fun b : ByteArray => b.data.toList) h
  have h2 : (tmpB pre).data.toList = pre.data.toList ++ [46, 116, 109, 112] := by unfold tmpB; simp [tmpX]
  simp only [nm_list, h2] at h1
  obtain ⟨c, l, hd, hc⟩ := dec_head n hn
  rw [hd] at h1
  have hdot : dotB.data.toList = [46] := rfl
  simp [hdot] at h1
  have := h1.1
  subst this
  revert hc; decide
def inN (pre : ByteArray) (l : List Nat) (key : ByteArray) : Bool := l.any fun n => decide (key = nmB pre n)
theorem inN_iff {pre : ByteArray} {l : List Nat} {key : ByteArray} : inN pre l key = true ↔ ∃ n ∈ l, key = nmB pre n := by
  unfold inN; simp [List.any_eq_true]
theorem inN_no {pre : ByteArray} {l : List Nat} {key : ByteArray} (h : ∀ n ∈ l, key ≠ nmB pre n) : ¬ inN pre l key = true := fun h2 => by
  obtain ⟨n, hn, he⟩ := inN_iff.1 h2
  exact h n hn he
/-- What files hold where of a log the k-th segment was cut, and what is behind it is gone, down to the j-th. -/
def keepF (pre : ByteArray) (f : Cont) (segs : List Nat) (k j : Nat) (g : List UInt8) : Cont := fun key =>
  if key = nmB pre (segs.getD k 0) then some g else if key = tmpB pre then none else if inN pre (segs.drop j) key = true then none else f key
theorem keepF_start {pre : ByteArray} {f : Cont} {segs : List Nat} {k : Nat} {g : List UInt8} (hk : k < segs.length) (h1 : ∀ n ∈ segs, n < 100) {a b : ActV} (ha : a.kind = 2) (han : a.name = tmpB pre) (hab : a.b.l = g) (hb : b.kind = 3) (hbn : b.name = tmpB pre) (hbt : b.to = nmB pre (segs.getD k 0)) :
    doF (doF f a) b = keepF pre f segs k segs.length g := by
  have hgk : segs.getD k 0 ∈ segs := by rw [List.getD_eq_getElem?_getD, List.getElem?_eq_getElem hk]; exact List.getElem_mem hk
  have hne := tmp_ne (pre := pre) (h1 _ hgk)
  have hd : ∀ key, doF f a key = if key = tmpB pre then some g else f key := fun key => by
    unfold doF; rw [if_neg (by omega), if_pos ha, han, hab]
  funext key
  have e : ∀ h : Cont, doF h b key = if (h b.name).isSome = true ∧ b.name ≠ b.to then (if key = b.to then h b.name else if key = b.name then none else h key) else h key := fun h => by
    unfold doF
    rw [if_neg (by omega), if_neg (by omega), if_pos hb]
  rw [e, hbn, hbt, hd, if_pos rfl, if_pos ⟨rfl, hne⟩, hd]
  unfold keepF
  rw [List.drop_length]
  by_cases q1 : key = nmB pre (segs.getD k 0)
  · rw [if_pos q1, if_pos q1]
  · rw [if_neg q1, if_neg q1]
    by_cases q2 : key = tmpB pre
    · rw [if_pos q2, if_pos q2]
    · rw [if_neg q2, if_neg q2, if_neg q2, if_neg (inN_no (fun n hn => by cases hn))]
theorem keepF_step {pre : ByteArray} {f : Cont} {segs : List Nat} {k j : Nat} {g : List UInt8} (hkj : k + 1 < j) (hj : j ≤ segs.length) (h1 : ∀ n ∈ segs, n < 100) (hnd : segs.Nodup) {a : ActV} (ha : a.kind = 4) (han : a.name = nmB pre (segs.getD (j - 1) 0)) :
    doF (keepF pre f segs k j g) a = keepF pre f segs k (j - 1) g := by
  have hjm : segs.getD (j - 1) 0 = segs[j - 1] := by rw [List.getD_eq_getElem?_getD, List.getElem?_eq_getElem (by omega)]; rfl
  have hkm : segs.getD k 0 = segs[k] := by rw [List.getD_eq_getElem?_getD, List.getElem?_eq_getElem (by omega)]; rfl
  have hdr : segs.drop (j - 1) = segs[j - 1] :: segs.drop j := by
    rw [List.drop_eq_getElem_cons (by omega), show j - 1 + 1 = j by omega]
  have hne : nmB pre segs[k] ≠ nmB pre segs[j - 1] := fun h => by
    have h2 := nm_inj (h1 _ (List.getElem_mem _)) (h1 _ (List.getElem_mem _)) h
    have h3 := (List.getElem_inj hnd).1 h2
    omega
  funext key
  have e : doF (keepF pre f segs k j g) a key = if key = a.name then none else keepF pre f segs k j g key := by
    unfold doF; rw [if_neg (by omega), if_neg (by omega), if_neg (by omega), if_pos ha]
  rw [e, han, hjm]
  unfold keepF
  rw [hkm]
  by_cases q1 : key = nmB pre segs[j - 1]
  · rw [if_pos q1, if_neg (by rw [q1]; exact fun h => hne h.symm)]
    by_cases q2 : key = tmpB pre
    · rw [if_pos q2]
    · rw [if_neg q2, if_pos (inN_iff.2 ⟨segs[j - 1], by rw [hdr]; exact List.mem_cons_self .., q1⟩)]
  · rw [if_neg q1]
    by_cases q2 : key = nmB pre segs[k]
    · rw [if_pos q2, if_pos q2]
    · rw [if_neg q2, if_neg q2]
      by_cases q3 : key = tmpB pre
      · rw [if_pos q3, if_pos q3]
      · rw [if_neg q3, if_neg q3]
        by_cases q4 : inN pre (segs.drop j) key = true
        · obtain ⟨n, hn, he⟩ := inN_iff.1 q4
          rw [if_pos q4, if_pos (inN_iff.2 ⟨n, by rw [hdr]; exact List.mem_cons_of_mem _ hn, he⟩)]
        · rw [if_neg q4, if_neg (inN_no (fun n hn he => by rw [hdr] at hn; rcases List.mem_cons.1 hn with h | h; exact q1 (h ▸ he); exact q4 (inN_iff.2 ⟨n, h, he⟩)))]
theorem seg_get {l : List Nat} {j : Nat} (h0 : 0 < j) (hj : j ≤ l.length) : ((l.take j).map encI)[((j - 1 : Nat) : Int).toNat]? = some (.int .i64 ((l.getD (j - 1) 0 : Nat) : Int)) := by
  have e : ((j - 1 : Nat) : Int).toNat = j - 1 := by omega
  rw [e, encI_get _ _ (by rw [List.length_take]; omega), List.getElem_take, List.getD_eq_getElem?_getD, List.getElem?_eq_getElem (by omega)]
  rfl
theorem seg_getK {l : List Nat} {k : Nat} (hk : k < l.length) : (l.map encI)[((k : Nat) : Int).toNat]? = some (.int .i64 ((l.getD k 0 : Nat) : Int)) := by
  have e : ((k : Nat) : Int).toNat = k := by omega
  rw [e, encI_get _ _ hk, List.getD_eq_getElem?_getD, List.getElem?_eq_getElem hk]
  rfl
theorem getN_mem {l : List Nat} {k : Nat} (hk : k < l.length) : l.getD k 0 ∈ l := by rw [List.getD_eq_getElem?_getD, List.getElem?_eq_getElem hk]; exact List.getElem_mem hk
theorem St.headO {w0 w : World} {H : List SA} {a : Option Addr} {c : Nat} {e : TypeId} {xs : List Value} (m : Nat) (hm : m ≤ xs.length) (h : St w0 (rowO (.slice a xs.length c) e xs :: H) w) : St w0 (rowO (.slice a (xs.take m).length c) e (xs.take m) :: H) w :=
  h.turn (by show rowFp _ = rowFp _; cases a <;> rfl) fun hp => by
    obtain ⟨a', c', hv, hn, hc, ha, hx⟩ := (hp : rowOP (.slice a xs.length c) e xs w)
    simp only [Value.slice.injEq, true_and] at hv
    obtain ⟨rfl, rfl⟩ := hv
    refine ⟨a, c, rfl, by rw [List.length_take]; omega, hc, ha, fun h0 => ?_⟩
    obtain ⟨g, o, cur, hg, hw, h1, h2⟩ := hx h0
    refine ⟨g, o, cur, hg, hw, h1, ?_⟩
    have e : (cur.toList.drop o).take (xs.take m).length = ((cur.toList.drop o).take xs.length).take m := by
      rw [List.take_take, List.length_take]
    rw [e, h2]
/-- What keep leaves. -/
def KeepR (pre : ByteArray) (s : DS) (t : LS) (k : Nat) (g : List UInt8) (M K : Nat) (s' : DS) (t' : LS) (e : Int) : Prop :=
  s'.Ok (M + 2 + t.segs.length) K ∧ (e = 4 ∨ (e = 0 ∧ Live s' ∧ s'.room = s.room ∧ s'.pend = [] ∧ cont s'.e1 = cont s'.e2 ∧ cont s'.e2 = keepF pre (cont s.e2) t.segs k (k + 1) g ∧ t' = ⟨t.ga, t.gc, t.segs.take (k + 1), t.siz, t.nx, t.bg⟩))
theorem str_tmp {pre : ByteArray} (hp : pre.size ≤ 8) : Op.stringOp .add pre tmpX = pure (.string (tmpB pre)) := str_add (by have : tmpX.size = 4 := rfl; omega)
theorem named_tmp {pre : ByteArray} (hp : pre.size ≤ 8) : namedB (tmpB pre) = true := by
  have h1 : (tmpB pre).size = pre.size + 4 := by unfold tmpB; rw [ByteArray.size_append]; rfl
  exact decide_eq_true (by omega)
theorem named_nm {pre : ByteArray} (hp : pre.size ≤ 8) {n : Nat} (hn : n < 100) : namedB (nmB pre n) = true := by
  have := nm_size3 (pre := pre) n hn
  exact decide_eq_true (by omega)
attribute [local irreducible] toldB recsB nmB lastN newN sha keepF tmpB
theorem doF_tmp {f : Cont} {nm to : ByteArray} {cl : BS} {g : List UInt8} (h : cl.l = g) : doF f ⟨2, nm, to, cl⟩ nm = some g := by
  show (if (2 : Int) = 1 then _ else if (2 : Int) = 2 then (if nm = nm then some cl.l else _) else _) = _
  rw [if_neg (by decide), if_pos rfl, if_pos rfl, h]
theorem has_keep {pre : ByteArray} {f : FM} {s : DS} {segs : List Nat} {k j : Nat} {g : List UInt8} (hc : cont s.e2 = keepF pre (cont f) segs k j g) (hkj : k + 1 < j) (hj : j ≤ segs.length) (h1 : ∀ n ∈ segs, n < 100) (hnd : segs.Nodup) (hex : ∀ n ∈ segs, hasE f (nmB pre n) = true) : hasE s.e2 (nmB pre (segs.getD (j - 1) 0)) = true := by
  have hjm : segs.getD (j - 1) 0 = segs[j - 1] := by rw [List.getD_eq_getElem?_getD, List.getElem?_eq_getElem (by omega)]; rfl
  have hkm : segs.getD k 0 = segs[k] := by rw [List.getD_eq_getElem?_getD, List.getElem?_eq_getElem (by omega)]; rfl
  rw [cont_has, hc]
  unfold keepF
  rw [hjm, hkm, if_neg (fun h => by
    have h2 := nm_inj (h1 _ (List.getElem_mem _)) (h1 _ (List.getElem_mem _)) h
    have h3 := (List.getElem_inj hnd).1 h2
    omega), if_neg (fun h => tmp_ne (h1 _ (List.getElem_mem _)) h.symm), if_neg (fun h => by
    obtain ⟨n, hn, he⟩ := inN_iff.1 h
    replace he := he.symm
    obtain ⟨i, hi, hni⟩ := List.getElem_of_mem hn
    rw [List.getElem_drop] at hni
    have h2 := nm_inj (h1 _ (List.mem_of_mem_drop hn)) (h1 _ (List.getElem_mem _)) he
    rw [← hni] at h2
    have h3 := (List.getElem_inj hnd).1 h2
    omega), ← cont_has]
  exact hex _ (List.getElem_mem _)
theorem row_cap {w0 w : World} {H : List SA} {lp p j : Nat} {pre : ByteArray} {t : LS} {s : DS} (hj : j ≤ t.segs.length) (h : St w0 (lblk lp p pre (⟨t.ga, t.gc, t.segs.take j, t.siz, t.nx, t.bg⟩ : LS) :: lrow (⟨t.ga, t.gc, t.segs.take j, t.siz, t.nx, t.bg⟩ : LS) :: DS.H p s H) w) : j - 1 ≤ t.gc := by
  have hp : rowOP (.slice t.ga (t.segs.take j).length t.gc) 3 ((t.segs.take j).map encI) w := h.holds (rowO (.slice t.ga (t.segs.take j).length t.gc) 3 ((t.segs.take j).map encI)) (List.mem_cons_of_mem _ (List.mem_cons_self ..))
  obtain ⟨a, c, hv, hn, -⟩ := hp
  simp only [Value.slice.injEq] at hv
  obtain ⟨-, h2, rfl⟩ := hv
  rw [List.length_map] at hn
  have : (t.segs.take j).length = j := by rw [List.length_take]; omega
  omega
theorem keep_cut {w0 w : World} {H : List SA} {lp p j : Nat} {pre : ByteArray} {t : LS} {s : DS} (hj0 : 0 < j) (hj : j ≤ t.segs.length) (h : St w0 (rowO (.slice t.ga (t.segs.take j).length t.gc) 3 ((t.segs.take j).map encI) :: H) w) :
    St w0 (rowO (.slice t.ga (t.segs.take (j - 1)).length t.gc) 3 ((t.segs.take (j - 1)).map encI) :: H) w := by
  have e : (t.segs.take j).length = ((t.segs.take j).map encI).length := by simp
  rw [e] at h
  have h2 := St.headO (j - 1) (by rw [List.length_map, List.length_take]; omega) h
  rw [← List.map_take, List.take_take, show min (j - 1) j = j - 1 by omega, List.length_map] at h2
  exact h2
set_option maxHeartbeats 1000000 in
theorem keep_c {w0 : World} {H : List SA} {lp p : Nat} {pre : ByteArray} {t : LS} {s : DS} {M K : Nat} (hok : s.Ok M K) (hM : M ≤ 900000) (hK : K ≤ 1000000000) (hK2 : 2000000 ≤ K) (hlv : Live s) (hp : pre.size ≤ 8) (hsl : t.segs.length ≤ 1000) {k : Nat} (hk : k < t.segs.length) (hm1 : ∀ n ∈ t.segs, n < 100) (hnd : t.segs.Nodup) (hex : ∀ n ∈ t.segs, hasE s.e2 (nmB pre n) = true) {g : BS} [rg : RdB w0 H (.slice g.a g.l.length g.c) g.l] (hgl : g.l.length ≤ 2000000) :
    CT Tryz.prog w0 (lblk lp p pre t :: lrow t :: DS.H p s H) 66 [.pointer (some ⟨lp, 0, none⟩), .int .i64 (k : Int), .slice g.a g.l.length g.c] (α := DS × LS × Int) (fun y => .int .i64 y.2.2) (fun y => pu (KeepR pre s t k g.l M K y.1 y.2.1 y.2.2) :: lblk lp p pre y.2.1 :: lrow y.2.1 :: DS.H p y.1 H) := by
  refine CT_intro Tryz.func66 rfl Tryz.ntmps66 rfl ?_
  refine T_seq ?_
  refine T_region ?_
  refine TL_q (Qt_assign (.int .i64 _) rfl) rfl ?_
  refine TL_nil ?_
  refine X_then ?_
  refine T_seq ?_
  refine T_region ?_
  refine TL_q (Qt_move (.pointer _) rfl) rfl ?_
  refine TL_q (Qt_nilCheck rfl) rfl ?_
  refine TL_q (Qt_fieldAddr 1 rfl rfl) rfl ?_
  refine TL_q (Qt_load1 rfl) rfl ?_
  refine TL_q (Qt_str_op (v := .string (tmpB pre)) rfl rfl (str_tmp hp)) rfl ?_
  refine TL_q (Qt_assign (.string _) rfl) rfl ?_
  refine TL_nil ?_
  refine X_then ?_
  refine T_seq ?_
  refine T_seq ?_
  refine T_region ?_
  refine TL_q (Qt_move (.pointer _) rfl) rfl ?_
  refine TL_q (Qt_nilCheck rfl) rfl ?_
  refine TL_q (Qt_fieldAddr 0 rfl rfl) rfl ?_
  refine TL_q (Qt_load1 rfl) rfl ?_
  refine TL_q (Qt_move (.string _) rfl) rfl ?_
  refine TL_q (Qt_move (.slice _ _ _) rfl) rfl ?_
  refine TL_conv (fun w hw => (Subs.st inferInstance w hw : St w0 (DS.H p s (lblk lp p pre t :: lrow t :: H)) w)) ?_
  refine TL_e rfl (Ef_call (write_c (s := s) hok (by omega) (by omega) (nm := tmpB pre) (b := g) hgl (by omega)) rfl (fun x23 => ?_))
  refine TL_pure (fun h23 => ?_)
  have hok23 := h23.okM (.inr rfl) hok hgl hK2
  have hlf := h23.liveF hlv (named_tmp hp) hok.good2
  refine TL_q (Qt_assign (.int .i64 _) rfl) rfl ?_
  refine TL_nil ?_
  refine X_then ?_
  refine T_seq ?_
  refine T_region ?_
  refine TL_q (Qt_move (.int .i64 _) rfl) rfl ?_
  refine TL_q (Qt_neq rfl rfl) rfl ?_
  refine TL_nil ?_
  refine X_then ?_
  refine T_cond rfl (fun h25 => ?_) (fun h25 => ?_)
  ·
    have p25 := h25
    try simp only [decide_eq_true_eq, decide_eq_false_iff_not, Bool.not_eq_true', Bool.not_eq_false', Option.isNone_iff_eq_none, ne_eq, Decidable.not_not, Int.not_lt, Int.not_le] at p25
    obtain ⟨he0, -⟩ | ⟨he4, -⟩ := hlf.symm
    · exact absurd he0 p25
    refine T_seq ?_
    refine T_region ?_
    refine TL_q (Qt_move (.int .i64 _) rfl) rfl ?_
    refine TL_q (Qt_assign (.int .i64 _) rfl) rfl ?_
    refine TL_nil ?_
    refine X_then ?_
    refine T_ret ?_
    refine X_then_ret ?_
    first
    | exact X_ret (x23.1, t, x23.2) [_] Tryz.results66 ⟨rfl, trivial⟩ rfl (fun w hw => (Subs.st inferInstance w hw : St w0 (lblk lp p pre t :: lrow t :: DS.H p x23.1 H) w).addPure (⟨hok23.mono (by omega) (by omega), .inl he4⟩))
  ·
    have p25 := h25
    try simp only [decide_eq_true_eq, decide_eq_false_iff_not, Bool.not_eq_true', Bool.not_eq_false', Option.isNone_iff_eq_none, ne_eq, Decidable.not_not, Int.not_lt, Int.not_le] at p25
    obtain ⟨he4, -⟩ | ⟨he0, hlv23, hr23, h23a, cl, hcl, hpd, hct⟩ := hlf
    · exact absurd he4 (by omega)
    refine T_skip ?_
    refine X_then ?_
    refine T_seq ?_
    refine T_region ?_
    refine TL_q (Qt_move (.pointer _) rfl) rfl ?_
    refine TL_q (Qt_nilCheck rfl) rfl ?_
    refine TL_q (Qt_fieldAddr 0 rfl rfl) rfl ?_
    refine TL_q (Qt_load1 rfl) rfl ?_
    refine TL_conv (fun w hw => (Subs.st inferInstance w hw : St w0 (DS.H p x23.1 (lblk lp p pre t :: lrow t :: H)) w)) ?_
    refine TL_e rfl (Ef_call (sync_c (s := x23.1) hok23 (by omega) (by omega)) rfl (fun x31 => ?_))
    refine TL_pure (fun h31 => ?_)
    have hok31 := h31.ok hok23
    obtain ⟨hlv31, hr31, hp31, h31a, h31b⟩ := h31.liveF hlv23
    have hc31 : cont x31.e2 = doF (cont s.e2) ⟨2, tmpB pre, ⟨#[]⟩, cl⟩ := by rw [h31b]; exact hct
    refine TL_nil ?_
    refine X_then ?_
    refine T_seq ?_
    refine T_seq ?_
    refine T_draw (lblk lp p pre t :: lrow t :: H) [(0, true), (1, true), (2, true), (3, true), (4, true), (5, true), (6, true), (7, true), (8, true), (9, true), (10, true), (11, true), (12, true), (13, false), (14, false), (15, true)] (by kernel_rfl) (by kernel_rfl) rfl (by kernel_rfl) (Subs.st inferInstance) (fun hns0 => ?_)
    refine DL_q hns0 rfl (Qt_move (.pointer _) rfl) rfl ?_
    refine DL_q hns0 rfl (Qt_nilCheck rfl) rfl ?_
    refine DL_q hns0 rfl (Qt_fieldAddr 0 rfl rfl) rfl ?_
    refine DL_q hns0 rfl (Qt_load1 rfl) rfl ?_
    refine DL_q hns0 rfl (Qt_move (.string _) rfl) rfl ?_
    refine DL_q hns0 rfl (Qt_move (.pointer _) rfl) rfl ?_
    refine DL_q hns0 rfl (Qt_move (.pointer _) rfl) rfl ?_
    refine DL_q hns0 rfl (Qt_nilCheck rfl) rfl ?_
    refine DL_q hns0 rfl (Qt_fieldAddr 2 rfl rfl) rfl ?_
    refine DL_q hns0 rfl (Qt_load1 rfl) rfl ?_
    refine DL_q hns0 rfl (Qt_move (.int .i64 _) rfl) rfl ?_
    refine DL_q hns0 rfl (Qt_indexR rfl rfl (by omega) (by rw [List.length_map]; omega)) rfl ?_
    refine DL_q hns0 rfl (Qt_loadR (.int .i64 ((t.segs.getD k 0 : Nat) : Int)) rfl (seg_getK hk)) rfl ?_
    refine DL_frontA (lblk lp p pre t) ?_
    refine DL_e rfl rfl (Ef_call (name_c (t := t) (by omega) (i := t.segs.getD k 0) (hm1 _ (getN_mem hk))) rfl (fun x45 => ⟨(Subs.st inferInstance), ?_⟩))
    refine DL_conv (fun w hw => (Subs.st inferInstance w hw : St w0 (DS.H p x31 (lblk lp p pre t :: lrow t :: H)) w)) ?_
    refine DL_e rfl rfl (Ef_call (rename_c (s := x31) hok31 (by omega) (by omega) (nm := tmpB pre) (to := nmB pre (t.segs.getD k 0))) rfl (fun x46 => ⟨(Subs.st inferInstance), ?_⟩))
    refine DL_pure (fun h46 => ?_)
    have hok46 := h46.okM hok31 rfl (show (3 : Int) ≠ 1 by decide) (show (3 : Int) ≠ 2 by decide)
    obtain ⟨he46, hlv46, hr46, hc46⟩ := h46.liveF hlv31 (by rw [named_tmp hp, named_nm hp (hm1 _ (getN_mem hk))]; rfl) (has_cont (l := g.l) (by rw [hc31]; exact doF_tmp hcl)) hok31.good2
    refine DL_q hns0 rfl (Qt_assign (.int .i64 _) rfl) rfl ?_
    refine DL_nil ?_
    refine X_then ?_
    refine T_seq ?_
    refine T_region ?_
    refine TL_q (Qt_move (.int .i64 _) rfl) rfl ?_
    refine TL_q (Qt_neq rfl rfl) rfl ?_
    refine TL_nil ?_
    refine X_then ?_
    refine T_cond rfl (fun h48 => ?_) (fun h48 => ?_)
    ·
      have p48 := h48
      try simp only [decide_eq_true_eq, decide_eq_false_iff_not, Bool.not_eq_true', Bool.not_eq_false', Option.isNone_iff_eq_none, ne_eq, Decidable.not_not, Int.not_lt, Int.not_le] at p48
      exact absurd he46 (by omega)
    ·
      have p48 := h48
      try simp only [decide_eq_true_eq, decide_eq_false_iff_not, Bool.not_eq_true', Bool.not_eq_false', Option.isNone_iff_eq_none, ne_eq, Decidable.not_not, Int.not_lt, Int.not_le] at p48
      refine T_skip ?_
      refine X_then ?_
      refine T_seq ?_
      refine T_region ?_
      refine TL_q (Qt_move (.pointer _) rfl) rfl ?_
      refine TL_q (Qt_nilCheck rfl) rfl ?_
      refine TL_q (Qt_fieldAddr 0 rfl rfl) rfl ?_
      refine TL_q (Qt_load1 rfl) rfl ?_
      refine TL_conv (fun w hw => (Subs.st inferInstance w hw : St w0 (DS.H p x46.1 (lblk lp p pre t :: lrow t :: H)) w)) ?_
      refine TL_e rfl (Ef_call (sync_c (s := x46.1) hok46 (by omega) (by omega)) rfl (fun x54 => ?_))
      refine TL_pure (fun h54 => ?_)
      have hok54 := h54.ok hok46
      obtain ⟨hlv54, hr54, hp54, h54a, h54b⟩ := h54.liveF hlv46
      have hc54 : cont x54.e2 = keepF pre (cont s.e2) t.segs k t.segs.length g.l := by rw [h54b, hc46, hc31]; exact keepF_start hk hm1 rfl rfl hcl rfl rfl rfl
      have hlt : t.segs.take t.segs.length = t.segs := List.take_length
      refine TL_nil ?_
      refine X_then ?_
      refine T_seq ?_
      refine T_block ?_
      refine T_loopg (m0 := t.segs.length) [6, 10, 11, 55, 56, 57, 58, 59, 60, 61, 62, 63, 64, 65, 66, 67, 68, 69, 70, 71, 72, 73, 74, 75, 76, 77, 78, 79, 80, 81, 82, 83, 84, 85, 86, 87, 88, 89, 90, 91, 92, 93, 94, 95, 96, 97, 98, 99] [] (fun us H' m => ∃ (j : Nat) (sj : DS), us = [] ∧ (lblk lp p pre (⟨t.ga, t.gc, t.segs.take j, t.siz, t.nx, t.bg⟩ : LS) :: lrow (⟨t.ga, t.gc, t.segs.take j, t.siz, t.nx, t.bg⟩ : LS) :: DS.H p sj H) = H' ∧ j = m ∧ k + 1 ≤ j ∧ j ≤ t.segs.length ∧ sj.Ok (M + 2 + (t.segs.length - j)) K ∧ Live sj ∧ sj.room = s.room ∧ sj.pend = [] ∧ cont sj.e1 = cont sj.e2 ∧ cont sj.e2 = keepF pre (cont s.e2) t.segs k j g.l) ⟨t.segs.length, x54, rfl, rfl, rfl, by omega, Nat.le_refl _, hok54.mono (by omega) (by omega), hlv54, by rw [hr54, hr46, hr31, hr23], hp54, by rw [h54a, h54b], hc54⟩ (fun w hw => by rw [hlt]; exact (Subs.st inferInstance w hw : St w0 (lblk lp p pre t :: lrow t :: DS.H p x54 H) w)) ?_
      rintro τ0 _ _ m ⟨j, sj, rfl, rfl, rfl, hj0, hjl, hokj, hlvj, hrj, hpj, hej, hcj⟩ _
      have hlj : (t.segs.take j).length = j := by rw [List.length_take]; omega
      refine T_seq ?_
      refine T_seq ?_
      refine T_region ?_
      refine TL_q (Qt_move (.pointer _) rfl) rfl ?_
      refine TL_q (Qt_nilCheck rfl) rfl ?_
      refine TL_q (Qt_fieldAddr 2 rfl rfl) rfl ?_
      refine TL_q (Qt_load1 rfl) rfl ?_
      refine TL_q (Qt_len_slice rfl Tryz.underlying129) rfl ?_
      refine TL_q (Qt_move (.int .i64 _) rfl) rfl ?_
      first
        | refine TL_q (Qt_add rfl rfl (by omega) (by omega)) rfl ?_
        | refine TL_q (Qt_addw rfl rfl) rfl ?_
      refine TL_q (Qt_gtr rfl rfl) rfl ?_
      refine TL_nil ?_
      refine X_then ?_
      refine T_cond rfl (fun h62 => ?_) (fun h62 => ?_)
      ·
        have p62 := h62
        try simp only [decide_eq_true_eq, decide_eq_false_iff_not, Bool.not_eq_true', Bool.not_eq_false', Option.isNone_iff_eq_none, ne_eq, Decidable.not_not, Int.not_lt, Int.not_le] at p62
        have hkj : k + 1 < j := by omega
        refine T_skip ?_
        refine X_then ?_
        refine T_block ?_
        refine T_seq ?_
        refine T_region ?_
        refine TL_q (Qt_move (.pointer _) rfl) rfl ?_
        refine TL_q (Qt_nilCheck rfl) rfl ?_
        refine TL_q (Qt_fieldAddr 2 rfl rfl) rfl ?_
        refine TL_q (Qt_load1 rfl) rfl ?_
        refine TL_q (Qt_len_slice rfl Tryz.underlying129) rfl ?_
        refine TL_q (Qt_val (Qt_sub rfl rfl (by dsimp only; omega) (by dsimp only; omega)) (congrArg (Value.int .i64) (show (((t.segs.take j).length : Nat) : Int) - 1 = ((j - 1 : Nat) : Int) from by omega))) rfl ?_
        refine TL_q (Qt_assign (.int .i64 _) rfl) rfl ?_
        refine TL_nil ?_
        refine X_then ?_
        refine T_seq ?_
        refine T_seq ?_
        refine T_draw (lblk lp p pre (⟨t.ga, t.gc, t.segs.take j, t.siz, t.nx, t.bg⟩ : LS) :: lrow (⟨t.ga, t.gc, t.segs.take j, t.siz, t.nx, t.bg⟩ : LS) :: H) [(0, true), (1, true), (2, true), (3, true), (4, true), (5, true), (6, true), (7, true), (8, true), (9, true), (10, true), (11, true), (12, false), (13, false), (14, true)] (by kernel_rfl) (by kernel_rfl) rfl (by kernel_rfl) (Subs.st inferInstance) (fun hns1 => ?_)
        refine DL_q hns1 rfl (Qt_move (.pointer _) rfl) rfl ?_
        refine DL_q hns1 rfl (Qt_nilCheck rfl) rfl ?_
        refine DL_q hns1 rfl (Qt_fieldAddr 0 rfl rfl) rfl ?_
        refine DL_q hns1 rfl (Qt_load1 rfl) rfl ?_
        refine DL_q hns1 rfl (Qt_move (.pointer _) rfl) rfl ?_
        refine DL_q hns1 rfl (Qt_move (.pointer _) rfl) rfl ?_
        refine DL_q hns1 rfl (Qt_nilCheck rfl) rfl ?_
        refine DL_q hns1 rfl (Qt_fieldAddr 2 rfl rfl) rfl ?_
        refine DL_q hns1 rfl (Qt_load1 rfl) rfl ?_
        refine DL_q hns1 rfl (Qt_move (.int .i64 _) rfl) rfl ?_
        refine DL_q hns1 rfl (Qt_indexR rfl rfl (by omega) (by dsimp only; rw [List.length_map]; omega)) rfl ?_
        refine DL_q hns1 rfl (Qt_loadR (.int .i64 ((t.segs.getD (j - 1) 0 : Nat) : Int)) rfl (seg_get (by omega) hjl)) rfl ?_
        refine DL_frontA (lblk lp p pre (⟨t.ga, t.gc, t.segs.take j, t.siz, t.nx, t.bg⟩ : LS)) ?_
        refine DL_e rfl rfl (Ef_call (name_c (t := (⟨t.ga, t.gc, t.segs.take j, t.siz, t.nx, t.bg⟩ : LS)) (by omega) (i := t.segs.getD (j - 1) 0) (hm1 _ (getN_mem (by omega)))) rfl (fun x81 => ⟨(Subs.st inferInstance), ?_⟩))
        refine DL_conv (fun w hw => (Subs.st inferInstance w hw : St w0 (DS.H p sj (lblk lp p pre (⟨t.ga, t.gc, t.segs.take j, t.siz, t.nx, t.bg⟩ : LS) :: lrow (⟨t.ga, t.gc, t.segs.take j, t.siz, t.nx, t.bg⟩ : LS) :: H)) w)) ?_
        refine DL_e rfl rfl (Ef_call (delete_c (s := sj) hokj (by omega) (by omega) (nm := nmB pre (t.segs.getD (j - 1) 0))) rfl (fun x82 => ⟨(Subs.st inferInstance), ?_⟩))
        refine DL_pure (fun h82 => ?_)
        have hok82 := h82.okM hokj rfl (show (4 : Int) ≠ 1 by decide) (show (4 : Int) ≠ 2 by decide)
        obtain ⟨he82, hlv82, hr82, hc82⟩ := h82.liveF hlvj (named_nm hp (hm1 _ (getN_mem (by omega)))) (has_keep hcj hkj hjl hm1 hnd hex) hokj.good2
        refine DL_q hns1 rfl (Qt_assign (.int .i64 _) rfl) rfl ?_
        refine DL_nil ?_
        refine X_then ?_
        refine T_seq ?_
        refine T_region ?_
        refine TL_q (Qt_move (.int .i64 _) rfl) rfl ?_
        refine TL_q (Qt_neq rfl rfl) rfl ?_
        refine TL_nil ?_
        refine X_then ?_
        refine T_cond rfl (fun h84 => ?_) (fun h84 => ?_)
        ·
          have p84 := h84
          try simp only [decide_eq_true_eq, decide_eq_false_iff_not, Bool.not_eq_true', Bool.not_eq_false', Option.isNone_iff_eq_none, ne_eq, Decidable.not_not, Int.not_lt, Int.not_le] at p84
          exact absurd he82 (by omega)
        ·
          have p84 := h84
          try simp only [decide_eq_true_eq, decide_eq_false_iff_not, Bool.not_eq_true', Bool.not_eq_false', Option.isNone_iff_eq_none, ne_eq, Decidable.not_not, Int.not_lt, Int.not_le] at p84
          refine T_skip ?_
          refine X_then ?_
          refine T_seq ?_
          refine T_region ?_
          refine TL_q (Qt_move (.pointer _) rfl) rfl ?_
          refine TL_q (Qt_nilCheck rfl) rfl ?_
          refine TL_q (Qt_fieldAddr 0 rfl rfl) rfl ?_
          refine TL_q (Qt_load1 rfl) rfl ?_
          refine TL_conv (fun w hw => (Subs.st inferInstance w hw : St w0 (DS.H p x82.1 (lblk lp p pre (⟨t.ga, t.gc, t.segs.take j, t.siz, t.nx, t.bg⟩ : LS) :: lrow (⟨t.ga, t.gc, t.segs.take j, t.siz, t.nx, t.bg⟩ : LS) :: H)) w)) ?_
          refine TL_e rfl (Ef_call (sync_c (s := x82.1) hok82 (by omega) (by omega)) rfl (fun x90 => ?_))
          refine TL_pure (fun h90 => ?_)
          have hok90 := h90.ok hok82
          obtain ⟨hlv90, hr90, hp90, h90a, h90b⟩ := h90.liveF hlv82
          have hc90 : cont x90.e2 = keepF pre (cont s.e2) t.segs k (j - 1) g.l := by rw [h90b, hc82, hcj]; exact keepF_step hkj hjl hm1 hnd rfl rfl
          refine TL_nil ?_
          refine X_then ?_
          refine T_region ?_
          refine TL_q (Qt_move (.pointer _) rfl) rfl ?_
          refine TL_q (Qt_move (.pointer _) rfl) rfl ?_
          refine TL_q (Qt_nilCheck rfl) rfl ?_
          refine TL_q (Qt_fieldAddr 2 rfl rfl) rfl ?_
          refine TL_q (Qt_load1 rfl) rfl ?_
          refine TL_q (Qt_move (.int .i64 _) rfl) rfl ?_
          refine TL_q (Qt_val (Qt_slice_h (j - 1) rfl rfl (fun w hw => row_cap (j := j) (lp := lp) (p := p) (pre := pre) (t := t) (s := x90) (H := H) hjl (Subs.st inferInstance w hw))) (show Value.slice t.ga (j - 1) t.gc = .slice t.ga (t.segs.take (j - 1)).length t.gc from by rw [List.length_take, Nat.min_eq_left (by omega)])) rfl ?_
          refine TL_conv (fun w hw => keep_cut (j := j) (p := p) (lp := lp) (pre := pre) (t := t) (s := x90) (H := lblk lp p pre (⟨t.ga, t.gc, t.segs.take j, t.siz, t.nx, t.bg⟩ : LS) :: DS.H p x90 H) (by omega) hjl (Subs.st inferInstance w hw)) ?_
          refine TL_q (Qt_nilCheck rfl) rfl ?_
          refine TL_q (Qt_fieldAddr 2 rfl rfl) rfl ?_
          refine TL_n (Ef_store1 (.slice _ _ _) rfl rfl (?_))
          refine TL_nil ?_
          refine X_block ?_
          refine X_loopg _ (by repeat (first | with_reducible exact agree_refl | refine agree_upd rfl ?_ | refine agree_mix rfl ?_ | refine agree_setAll rfl ?_)) (⟨j - 1, x90, rfl, rfl, rfl, by omega, by omega, hok90.mono (by omega) (by omega), hlv90, by rw [hr90, hr82, hrj], hp90, by rw [h90a, h90b], hc90⟩) (by omega) ((Subs.st inferInstance))
      ·
        have p62 := h62
        try simp only [decide_eq_true_eq, decide_eq_false_iff_not, Bool.not_eq_true', Bool.not_eq_false', Option.isNone_iff_eq_none, ne_eq, Decidable.not_not, Int.not_lt, Int.not_le] at p62
        obtain rfl : j = k + 1 := by omega
        refine T_exit ?_
        refine X_then_exit ?_
        refine X_loopg_exit ?_
        refine X_block_exit ?_
        refine X_then ?_
        refine T_seq ?_
        refine T_region ?_
        refine TL_q (Qt_assign (.int .i64 _) rfl) rfl ?_
        refine TL_nil ?_
        refine X_then ?_
        refine T_ret ?_
        exact X_ret (sj, (⟨t.ga, t.gc, t.segs.take (k + 1), t.siz, t.nx, t.bg⟩ : LS), 0) [_] Tryz.results66 ⟨rfl, trivial⟩ rfl (fun w hw => (Subs.st inferInstance w hw : St w0 (lblk lp p pre (⟨t.ga, t.gc, t.segs.take (k + 1), t.siz, t.nx, t.bg⟩ : LS) :: lrow (⟨t.ga, t.gc, t.segs.take (k + 1), t.siz, t.nx, t.bg⟩ : LS) :: DS.H p sj H) w).addPure (⟨hokj.mono (by omega) (by omega), .inr ⟨rfl, hlvj, hrj, hpj, hej, hcj, rfl⟩⟩))
end
section
open Go.RowKit Go.Sx
set_option maxRecDepth 100000
set_option linter.unusedSimpArgs false
set_option linter.unusedVariables false
/-- What is known of a log while its segments are gone through. -/
structure Sc where
  siz : Nat
  nx : Nat
  bg : Bool
@[reducible] def Sc0 : Sc := ⟨0, 1, false⟩
def scS (x : Sc) (b : List UInt8) : Sc := ⟨(scanF b x.bg x.nx).2.1, (scanF b x.bg x.nx).2.2.2, (scanF b x.bg x.nx).2.2.1⟩
def foldS (cf : Nat → List UInt8) : List Nat → Sc → Sc
  | [], x => x
  | n :: ns, x => foldS cf ns (scS x (cf n))
def foldR (cf : Nat → List UInt8) : List Nat → Sc → List (List UInt8)
  | [], _ => []
  | n :: ns, x => (scanF (cf n) x.bg x.nx).1 ++ foldR cf ns (scS x (cf n))
theorem foldS_step (cf : Nat → List UInt8) : ∀ (m : List Nat) (x : Sc) (k : Nat) (hk : k < m.length), foldS cf (m.take (k + 1)) x = scS (foldS cf (m.take k) x) (cf m[k])
  | _ :: _, _, 0, _ => rfl
  | n :: m, x, k + 1, hk => foldS_step cf m (scS x (cf n)) k (by simpa using hk)
theorem foldR_step (cf : Nat → List UInt8) : ∀ (m : List Nat) (x : Sc) (k : Nat) (hk : k < m.length), foldR cf (m.take (k + 1)) x = foldR cf (m.take k) x ++ (scanF (cf m[k]) (foldS cf (m.take k) x).bg (foldS cf (m.take k) x).nx).1
  | n :: m, x, 0, _ => by show (scanF (cf n) x.bg x.nx).1 ++ [] = [] ++ (scanF (cf n) x.bg x.nx).1; simp
  | n :: m, x, k + 1, hk => by
    have h := foldR_step cf m (scS x (cf n)) k (by simpa using hk)
    show (scanF (cf n) x.bg x.nx).1 ++ foldR cf (m.take (k + 1)) (scS x (cf n)) = ((scanF (cf n) x.bg x.nx).1 ++ foldR cf (m.take k) (scS x (cf n))) ++ _
    rw [h, List.append_assoc]; rfl
theorem foldS_nx (cf : Nat → List UInt8) : ∀ (m : List Nat) (x : Sc), x.nx < 18446744073709551616 → (foldS cf m x).nx < 18446744073709551616
  | [], _, h => h
  | n :: m, x, h => foldS_nx cf m _ (scanF_bound (cf n) x.bg h).2.1
theorem foldS_0 (cf : Nat → List UInt8) (m : List Nat) (x : Sc) : foldS cf (m.take 0) x = x := by rw [List.take_zero]; rfl
theorem foldR_0 (cf : Nat → List UInt8) (m : List Nat) (x : Sc) : foldR cf (m.take 0) x = [] := by rw [List.take_zero]; rfl
@[reducible] def mkT (ga : Option Addr) (gc : Nat) (segs : List Nat) (x : Sc) : LS := ⟨ga, gc, segs, x.siz, x.nx, x.bg⟩
/-- The first k segments are whole. -/
def wholeTo (cf : Nat → List UInt8) (m : List Nat) (k : Nat) : Prop := ∀ i (_ : i < k) (hm : i < m.length), (scanF (cf m[i]) (foldS cf (m.take i) Sc0).bg (foldS cf (m.take i) Sc0).nx).2.1 = (cf m[i]).length
theorem wholeTo_0 (cf : Nat → List UInt8) (m : List Nat) : wholeTo cf m 0 := fun i h => absurd h (Nat.not_lt_zero i)
theorem wholeTo_succ {cf : Nat → List UInt8} {m : List Nat} {k : Nat} (h : wholeTo cf m k) (hk : k < m.length) (h2 : (scanF (cf m[k]) (foldS cf (m.take k) Sc0).bg (foldS cf (m.take k) Sc0).nx).2.1 = (cf m[k]).length) : wholeTo cf m (k + 1) := fun i hi hm => by
  by_cases e : i = k
  · subst e; exact h2
  · exact h i (by omega) hm
/-- The numbers that names bear. -/
def colN (nf : ByteArray → Nat) (l : List ByteArray) : List Nat := (l.map nf).filter fun n => decide (0 < n)
theorem colN_len (nf : ByteArray → Nat) (l : List ByteArray) : (colN nf l).length ≤ l.length := by
  unfold colN; have := List.length_filter_le (fun n => decide (0 < n)) (l.map nf); rwa [List.length_map] at this
theorem colN_app (nf : ByteArray → Nat) (l : List ByteArray) (k : Nat) (hk : k < l.length) (h : 0 < nf l[k]) : colN nf (l.take k) ++ [nf l[k]] = colN nf (l.take (k + 1)) := by
  unfold colN; rw [List.take_add_one, List.getElem?_eq_getElem hk, List.map_append, List.filter_append]
  simp [h]
theorem colN_skip (nf : ByteArray → Nat) (l : List ByteArray) (k : Nat) (hk : k < l.length) (h : ¬ 0 < nf l[k]) : colN nf (l.take k) = colN nf (l.take (k + 1)) := by
  unfold colN; rw [List.take_add_one, List.getElem?_eq_getElem hk, List.map_append, List.filter_append]
  simp [h]
theorem encS_get (l : List ByteArray) (k : Nat) (hk : k < l.length) : (l.map encS)[k]? = some (.string l[k]) := by
  rw [List.getElem?_map, List.getElem?_eq_getElem hk]; rfl
structure OpR where
  lp : Nat
  pt : Option Addr
  a : Option Addr
  c : Nat
  all : List BS
  fp : List Nat
  s : DS
  t : LS
  e : Int
/-- What a log is that is opened on a disk. -/
def OpenR (pre : ByteArray) (s : DS) (cf : Nat → List UInt8) (m : List Nat) (M K : Nat) (y : OpR) : Prop :=
  y.s.Ok (M + 1100) K ∧ ((y.e = 4 ∧ y.pt = none ∧ ∃ (k : Nat) (hk : k < m.length), (scanF (cf m[k]) (foldS cf (m.take k) Sc0).bg (foldS cf (m.take k) Sc0).nx).2.1 < (cf m[k]).length) ∨ (y.e = 0 ∧ y.pt = some ⟨y.lp, 0, none⟩ ∧
    ((wholeTo cf m m.length ∧ y.s = s ∧ (∃ ga gc, y.t = mkT ga gc m (foldS cf m Sc0)) ∧ y.all.map BS.l = foldR cf m Sc0) ∨
     (∃ (k : Nat) (hk : k < m.length), wholeTo cf m k ∧ (scanF (cf m[k]) (foldS cf (m.take k) Sc0).bg (foldS cf (m.take k) Sc0).nx).2.1 < (cf m[k]).length ∧ Live y.s ∧ y.s.room = s.room ∧ y.s.pend = [] ∧ cont y.s.e1 = cont y.s.e2 ∧
       cont y.s.e2 = keepF pre (cont s.e2) m k (k + 1) ((cf m[k]).take (scanF (cf m[k]) (foldS cf (m.take k) Sc0).bg (foldS cf (m.take k) Sc0).nx).2.1) ∧ (∃ ga gc, y.t = mkT ga gc (m.take (k + 1)) (foldS cf (m.take (k + 1)) Sc0)) ∧ y.all.map BS.l = foldR cf (m.take (k + 1)) Sc0))))
theorem open_midX {w0 w : World} {H : List SA} {lp p : Nat} {pre : ByteArray} {ga : Option Addr} {gc : Nat} {ns m : List Nat} (hp : ns.Perm m) (h : St w0 (row (.slice ga ns.length gc) 3 1 (m.flatMap encN) :: lblk lp p pre (mkT ga gc ns Sc0) :: H) w) :
    St w0 (row (.slice ga m.length gc) 3 1 (m.flatMap encN) :: lblk lp p pre (mkT ga gc m Sc0) :: H) w := by
  have h2 : St w0 (row (.slice ga ns.length gc) 3 1 (m.flatMap encN) :: blk lp (.cells (LogV.mk (some ⟨p, 0, none⟩) pre ⟨ga, ns.length, gc⟩ ((0 : Nat) : Int) ((1 : Nat) : Int) false).cells 131 (0, 0)) :: H) w := h
  rw [hp.length_eq] at h2
  exact h2
theorem open_row {w0 w : World} {H : List SA} {ga : Option Addr} {gc : Nat} {m : List Nat} (h : St w0 (row (.slice ga m.length gc) 3 1 (m.flatMap encN) :: H) w) : St w0 (rowO (.slice ga m.length gc) 3 (m.map encI) :: H) w := by
  have h2 := St.toO h
  rw [enc_map] at h2
  exact h2
theorem open_all {w0 w : World} {H : List SA} {all o : List BS} {fa fo : List Nat} {x : SA} (h : St w0 (x :: dat fa ⟨all, [], []⟩ :: dat fo ⟨o, [], []⟩ :: H) w) : St w0 (x :: dat (fa ++ fo) ⟨all ++ o, [], []⟩ :: H) w := by
  have h1 : St w0 (dat fa ⟨all, [], []⟩ :: dat fo ⟨o, [], []⟩ :: x :: H) w := Subs.st (H := x :: dat fa ⟨all, [], []⟩ :: dat fo ⟨o, [], []⟩ :: H) inferInstance w h
  exact Subs.st (H := dat (fa ++ fo) ⟨all ++ o, [], []⟩ :: x :: H) inferInstance w h1.datAdd
attribute [local irreducible] toldB recsB nmB foldS foldR scanF namesE colN keepF tmpB wholeTo sha
theorem open_s1 {w0 w : World} {H : List SA} {b29 p : Nat} {pre : ByteArray} {nf : ByteArray → Nat} {nl : List ByteArray} (h : St w0 (lblk b29 p pre (mkT none 0 [] Sc0) :: row (.slice none 0 0) 3 1 [] :: H) w) :
    St w0 (lblk b29 p pre (mkT none 0 (colN nf (nl.take 0)) Sc0) :: row (.slice none (colN nf (nl.take 0)).length 0) 3 1 ((colN nf (nl.take 0)).flatMap encN) :: H) w := by
  have e : colN nf (nl.take 0) = [] := by rw [List.take_zero]; unfold colN; rfl
  rw [e]; exact h
theorem open_s2 {w0 w : World} {H : List SA} {b29 p : Nat} {s : DS} {pre : ByteArray} {ga : Option Addr} {gc : Nat} {m : List Nat} {cf : Nat → List UInt8} (h : St w0 (lblk b29 p pre (mkT ga gc m Sc0) :: row (.slice ga m.length gc) 3 1 (m.flatMap encN) :: DS.H p s H) w) :
    St w0 (row (.slice none ([] : List BS).length 0) 41 1 (([] : List BS).map BS.val) :: dat [] ⟨[], [], []⟩ :: lblk b29 p pre (mkT ga gc m (foldS cf (m.take 0) Sc0)) :: row (.slice ga m.length gc) 3 1 (m.flatMap encN) :: DS.H p s H) w := by
  rw [foldS_0]
  have h1 := (h.addNil 41 1)
  have h2 : St w0 (dat [] ⟨[], [], []⟩ :: row (.slice none 0 0) 41 1 [] :: lblk b29 p pre (mkT ga gc m Sc0) :: row (.slice ga m.length gc) 3 1 (m.flatMap encN) :: DS.H p s H) w := h1.datNil
  exact Subs.st (H := dat [] ⟨[], [], []⟩ :: row (.slice none 0 0) 41 1 [] :: lblk b29 p pre (mkT ga gc m Sc0) :: row (.slice ga m.length gc) 3 1 (m.flatMap encN) :: DS.H p s H) (H' := row (.slice none 0 0) 41 1 [] :: dat [] ⟨[], [], []⟩ :: lblk b29 p pre (mkT ga gc m Sc0) :: row (.slice ga m.length gc) 3 1 (m.flatMap encN) :: DS.H p s H) inferInstance w h2
theorem open_err {w0 w : World} {H : List SA} {b29 p : Nat} {s : DS} {pre : ByteArray} {t : LS} {q : Prop} (h : St w0 (lblk b29 p pre t :: lrow t :: DS.H p s H) w) (hq : q) :
    St w0 (pu q :: lblk b29 p pre t :: lrow t :: row (.slice none ([] : List BS).length 0) 41 1 (([] : List BS).map BS.val) :: dat [] ⟨[], [], []⟩ :: DS.H p s H) w := by
  have h1 := (h.addNil 41 1)
  have h2 : St w0 (dat [] ⟨[], [], []⟩ :: row (.slice none 0 0) 41 1 [] :: lblk b29 p pre t :: lrow t :: DS.H p s H) w := h1.datNil
  exact (Subs.st (H := dat [] ⟨[], [], []⟩ :: row (.slice none 0 0) 41 1 [] :: lblk b29 p pre t :: lrow t :: DS.H p s H) (H' := lblk b29 p pre t :: lrow t :: row (.slice none 0 0) 41 1 [] :: dat [] ⟨[], [], []⟩ :: DS.H p s H) inferInstance w h2).addPure hq
set_option maxHeartbeats 1000000 in
theorem openX_c {w0 : World} {H : List SA} {p : Nat} {s : DS} {M K : Nat} (hok : s.Ok M K) (hM : M ≤ 800000) (hK : K ≤ 1000000000) (hK2 : 2000000 ≤ K) (hlv : Live s) {pre : ByteArray} (hs : pre.size ≤ 8) (hsm : pre.size ≤ maxLen) (hf : fineB pre = true) (hkz : ∀ e ∈ s.e2, e.k.size ≤ maxLen) {nf : ByteArray → Nat} (hnum : ∀ nm ∈ (namesE s.e2), ∀ H2 : List SA, CT Tryz.prog w0 H2 62 [.string pre, .string nm] (α := Unit) (fun _ => .int .i64 (nf nm : Int)) (fun _ => H2)) {m : List Nat} (hp : (colN nf (namesE s.e2)).Perm m) (hsrt : m.Pairwise (· < ·)) (h1 : ∀ n ∈ m, n < 100) (hnl : (namesE s.e2).length ≤ 1000) {cf : Nat → List UInt8} (hcf : ∀ n ∈ m, cont s.e2 (nmB pre n) = some (cf n)) (hsz : ∀ n ∈ m, (cf n).length ≤ 2000000) (htot : ∀ k, (foldR cf (m.take k) Sc0).length ≤ 1000000) :
    CT Tryz.prog w0 (DS.H p s H) 28 [.pointer (some ⟨p, 0, none⟩), .string pre] (α := OpR) (fun y => .tuple #[.pointer y.pt, .slice y.a y.all.length y.c, .int .i64 y.e]) (fun y => pu (OpenR pre s cf m M K y) :: lblk y.lp p pre y.t :: lrow y.t :: row (.slice y.a (y.all).length y.c) 41 1 ((y.all).map BS.val) :: dat y.fp ⟨y.all, [], []⟩ :: DS.H p y.s H) := by
  refine CT_intro Tryz.func28 rfl Tryz.ntmps28 rfl ?_
  refine T_seq ?_
  refine T_region ?_
  refine TL_q (Qt_assign (.pointer _) rfl) rfl ?_
  refine TL_q (Qt_assign (.slice _ _ _) rfl) rfl ?_
  refine TL_q (Qt_assign (.int .i64 _) rfl) rfl ?_
  refine TL_nil ?_
  refine X_then ?_
  refine T_seq ?_
  refine T_block ?_
  refine T_seq ?_
  refine T_region ?_
  refine TL_q (Qt_move (.pointer _) rfl) rfl ?_
  refine TL_q (Qt_ptr_nil rfl rfl Tryz.underlying28) rfl ?_
  refine TL_q (Qt_assign (.bool _) rfl) rfl ?_
  refine TL_nil ?_
  refine X_then ?_
  refine T_cond_false rfl (by first | rfl | decide) ?_
  refine T_seq ?_
  refine T_region ?_
  refine TL_q (Qt_move (.string _) rfl) rfl ?_
  refine TL_e rfl (Ef_call (fine_c hsm) rfl (fun x24 => ?_))
  rw [hf]
  refine TL_q (Qt_not rfl) rfl ?_
  refine TL_q (Qt_assign (.bool _) rfl) rfl ?_
  refine TL_nil ?_
  refine X_then ?_
  refine T_cond_false rfl (by first | rfl | decide) ?_
  refine T_skip ?_
  refine X_block ?_
  refine X_then ?_
  refine T_seq ?_
  refine T_region ?_
  refine TL_q (Qt_move (.pointer _) rfl) rfl ?_
  refine TL_q (Qt_move (.string _) rfl) rfl ?_
  refine TL_q (Qt_build [(0, (.pointer _)), (1, (.string _)), (4, (.int .u64 _))] rfl (by kernel_rfl)) rfl ?_
  refine TL_e rfl (Ef_boxN rfl (fun b29 => ?_))
  refine TL_q (Qt_assign (.pointer _) rfl) rfl ?_
  refine TL_nil ?_
  refine X_then ?_
  refine T_seq ?_
  refine T_seq ?_
  refine T_region ?_
  refine TL_q (Qt_move (.pointer _) rfl) rfl ?_
  refine TL_conv (fun w hw => (Subs.st inferInstance w hw : St w0 (DS.H p s (lblk b29 p pre (mkT none 0 [] Sc0) :: H)) w)) ?_
  refine TL_e rfl (Ef_call (dnames_c (s := s) hok (by omega) hkz) rfl (fun x31 => ?_))
  refine TL_q (Qt_len_slice rfl Tryz.underlying132) rfl ?_
  refine TL_q (Qt_move (.int .i64 _) rfl) rfl ?_
  refine TL_nil ?_
  refine X_then ?_
  refine T_block ?_
  refine T_loop [9, 10, 33, 34, 35, 36, 37, 38, 39, 40, 41, 42, 43, 44, 45, 46, 47, 48, 49, 50, 51, 52] [33] (fun us H' => ∃ (k : Nat) (ga : Option Addr) (gc : Nat), us = [.int .i64 (k : Int)] ∧ lblk b29 p pre (mkT ga gc (colN nf ((namesE s.e2).take k)) Sc0) :: row (.slice ga (colN nf ((namesE s.e2).take k)).length gc) 3 1 ((colN nf ((namesE s.e2).take k)).flatMap encN) :: row (.slice x31.a (namesE s.e2).length x31.c) 9 1 ((namesE s.e2).map encS) :: DS.H p s H = H' ∧ k ≤ (namesE s.e2).length) (fun us => match us with | .int _ i :: _ => (namesE s.e2).length - i.toNat | _ => 0) ⟨0, none, 0, rfl, rfl, by omega⟩ (fun w hw => by
        have h1 := (Subs.st inferInstance w hw : St w0 (lblk b29 p pre (mkT none 0 [] Sc0) :: row (.slice x31.a (namesE s.e2).length x31.c) 9 1 ((namesE s.e2).map encS) :: DS.H p s H) w).addNil 3 1
        exact open_s1 (Subs.st (H := row (.slice none 0 0) 3 1 [] :: lblk b29 p pre (mkT none 0 [] Sc0) :: row (.slice x31.a (namesE s.e2).length x31.c) 9 1 ((namesE s.e2).map encS) :: DS.H p s H) (H' := lblk b29 p pre (mkT none 0 [] Sc0) :: row (.slice none 0 0) 3 1 [] :: row (.slice x31.a (namesE s.e2).length x31.c) 9 1 ((namesE s.e2).map encS) :: DS.H p s H) inferInstance w h1)) ?_
  rintro τ0 _ _  ⟨k, ga, gc, rfl, rfl, hk0⟩ _
  refine T_seq ?_
  refine T_region ?_
  refine TL_q (Qt_lss rfl rfl) rfl ?_
  refine TL_nil ?_
  refine X_then ?_
  refine T_seq ?_
  refine T_cond rfl (fun h34 => ?_) (fun h34 => ?_)
  ·
    have p34 := h34
    try simp only [decide_eq_true_eq, decide_eq_false_iff_not, Bool.not_eq_true', Bool.not_eq_false', Option.isNone_iff_eq_none, ne_eq, Decidable.not_not, Int.not_lt, Int.not_le] at p34
    have hk : k < (namesE s.e2).length := by omega
    refine T_skip ?_
    refine X_then ?_
    refine T_seq ?_
    refine T_block ?_
    refine T_seq ?_
    refine T_region ?_
    refine TL_q (Qt_indexR rfl rfl (by omega) (by simp; omega)) rfl ?_
    refine TL_q (Qt_loadR (.string (namesE s.e2)[k]) rfl (encS_get (namesE s.e2) k hk)) rfl ?_
    refine TL_q (Qt_assign (.string _) rfl) rfl ?_
    refine TL_nil ?_
    refine X_then ?_
    refine T_seq ?_
    refine T_region ?_
    refine TL_q (Qt_move (.string _) rfl) rfl ?_
    refine TL_q (Qt_move (.string _) rfl) rfl ?_
    refine TL_e rfl (Ef_call (hnum _ (List.getElem_mem hk) _) rfl (fun x39 => ?_))
    refine TL_q (Qt_assign (.int .i64 _) rfl) rfl ?_
    refine TL_nil ?_
    refine X_then ?_
    refine T_seq ?_
    refine T_region ?_
    refine TL_q (Qt_move (.int .i64 _) rfl) rfl ?_
    refine TL_q (Qt_gtr rfl rfl) rfl ?_
    refine TL_nil ?_
    refine X_then ?_
    refine T_cond rfl (fun h41 => ?_) (fun h41 => ?_)
    ·
      have p41 := h41
      try simp only [decide_eq_true_eq, decide_eq_false_iff_not, Bool.not_eq_true', Bool.not_eq_false', Option.isNone_iff_eq_none, ne_eq, Decidable.not_not, Int.not_lt, Int.not_le] at p41
      refine T_region ?_
      refine TL_q (Qt_move (.pointer _) rfl) rfl ?_
      refine TL_q (Qt_move (.pointer _) rfl) rfl ?_
      refine TL_q (Qt_nilCheck rfl) rfl ?_
      refine TL_q (Qt_fieldAddr 2 rfl rfl) rfl ?_
      refine TL_q (Qt_load1 rfl) rfl ?_
      refine TL_q (Qt_move (.int .i64 _) rfl) rfl ?_
      refine TL_e rfl (Ef_sliceN (m := ([nf (namesE s.e2)[k]] : List Nat).length) [.int .i64 ((nf (namesE s.e2)[k] : Nat) : Int)] (([nf (namesE s.e2)[k]] : List Nat).flatMap encN) rfl rfl rfl rfl (by simp [Value.cells]) rfl rfl (fun a48 c48 => ?_))
      refine TL_e rfl (Ef_appendS encN (sv := .slice _ _ _) (xv := .slice _ _ _) (xs := (colN nf ((namesE s.e2).take k))) (ys := ([nf (namesE s.e2)[k]] : List Nat)) (fun _ => rfl) (fun _ => rfl) rfl rfl (by have := colN_len nf ((namesE s.e2).take k); rw [List.length_take] at this; simp; omega) rfl rfl (fun a49 c49 => ?_))
      rw [colN_app nf (namesE s.e2) k hk (by omega)]
      refine TL_q (Qt_nilCheck rfl) rfl ?_
      refine TL_q (Qt_fieldAddr 2 rfl rfl) rfl ?_
      refine TL_n (Ef_store1 (.slice _ _ _) rfl rfl (?_))
      refine TL_nil ?_
      refine X_block ?_
      refine X_then ?_
      refine T_region ?_
      first
        | refine TL_q (Qt_add rfl rfl (by omega) (by omega)) rfl ?_
        | refine TL_q (Qt_addw rfl rfl) rfl ?_
      refine TL_q (Qt_move (.int .i64 _) rfl) rfl ?_
      refine TL_nil ?_
      apply X_loop
      case ha => exact (by repeat (first | with_reducible exact agree_refl | refine agree_upd rfl ?_ | refine agree_mix rfl ?_ | refine agree_setAll rfl ?_))
      case hI => exact by first | exact ⟨k + 1, a49, c49, rfl, rfl, by omega⟩ | exact ⟨k + 1, ga, gc, rfl, rfl, by omega⟩
      case hm => exact by show (namesE s.e2).length - (k + 1 : Int).toNat < (namesE s.e2).length - (k : Int).toNat; omega
      case hH => exact (Subs.st inferInstance)
    ·
      have p41 := h41
      try simp only [decide_eq_true_eq, decide_eq_false_iff_not, Bool.not_eq_true', Bool.not_eq_false', Option.isNone_iff_eq_none, ne_eq, Decidable.not_not, Int.not_lt, Int.not_le] at p41
      rw [colN_skip nf (namesE s.e2) k hk (by omega)]
      refine T_skip ?_
      refine X_block ?_
      refine X_then ?_
      refine T_region ?_
      first
        | refine TL_q (Qt_add rfl rfl (by omega) (by omega)) rfl ?_
        | refine TL_q (Qt_addw rfl rfl) rfl ?_
      refine TL_q (Qt_move (.int .i64 _) rfl) rfl ?_
      refine TL_nil ?_
      apply X_loop
      case ha => exact (by repeat (first | with_reducible exact agree_refl | refine agree_upd rfl ?_ | refine agree_mix rfl ?_ | refine agree_setAll rfl ?_))
      case hI => exact by first | exact ⟨k + 1, a49, c49, rfl, rfl, by omega⟩ | exact ⟨k + 1, ga, gc, rfl, rfl, by omega⟩
      case hm => exact by show (namesE s.e2).length - (k + 1 : Int).toNat < (namesE s.e2).length - (k : Int).toNat; omega
      case hH => exact (Subs.st inferInstance)
  ·
    have p34 := h34
    try simp only [decide_eq_true_eq, decide_eq_false_iff_not, Bool.not_eq_true', Bool.not_eq_false', Option.isNone_iff_eq_none, ne_eq, Decidable.not_not, Int.not_lt, Int.not_le] at p34
    have hkn : k = (namesE s.e2).length := by omega
    have htk : (namesE s.e2).take k = (namesE s.e2) := by rw [hkn]; exact List.take_length
    rw [htk]
    refine T_exit ?_
    refine X_then_exit ?_
    refine X_loop_exit ?_
    refine X_block_exit ?_
    refine X_then ?_
    refine T_seq ?_
    refine T_region ?_
    refine TL_q (Qt_move (.pointer _) rfl) rfl ?_
    refine TL_q (Qt_nilCheck rfl) rfl ?_
    refine TL_q (Qt_fieldAddr 2 rfl rfl) rfl ?_
    refine TL_q (Qt_load1 rfl) rfl ?_
    refine TL_conv (fun w hw => (Subs.st inferInstance w hw : St w0 (row (.slice ga (colN nf (namesE s.e2)).length gc) 3 1 ((colN nf (namesE s.e2)).flatMap encN) :: lblk b29 p pre (mkT ga gc (colN nf (namesE s.e2)) Sc0) :: DS.H p s H) w)) ?_
    refine TL_e rfl (Ef_call (sortI_c (l := (colN nf (namesE s.e2))) (m := m) (by have := colN_len nf (namesE s.e2); omega) hp (hsrt.imp Nat.le_of_lt)) rfl (fun x57 => ?_))
    refine TL_conv (fun w hw => open_midX hp hw) ?_
    refine TL_nil ?_
    refine X_then ?_
    refine T_seq ?_
    refine T_region ?_
    refine TL_q (Qt_assign (.slice _ _ _) rfl) rfl ?_
    refine TL_nil ?_
    refine X_then ?_
    refine T_seq ?_
    refine T_seq ?_
    refine T_region ?_
    refine TL_q (Qt_move (.pointer _) rfl) rfl ?_
    refine TL_q (Qt_nilCheck rfl) rfl ?_
    refine TL_q (Qt_fieldAddr 2 rfl rfl) rfl ?_
    refine TL_q (Qt_load1 rfl) rfl ?_
    refine TL_q (Qt_len_slice rfl Tryz.underlying129) rfl ?_
    refine TL_q (Qt_move (.int .i64 _) rfl) rfl ?_
    refine TL_nil ?_
    refine X_then ?_
    refine T_block ?_
    refine T_loop [4, 5, 6, 11, 12, 13, 14, 15, 16, 17, 18, 63, 64, 65, 66, 67, 68, 69, 70, 71, 72, 73, 74, 75, 76, 77, 78, 79, 80, 81, 82, 83, 84, 85, 86, 87, 88, 89, 90, 91, 92, 93, 94, 95, 96, 97, 98, 99, 100, 101, 102] [63, 11] (fun us H' => ∃ (k : Nat) (aa : Option Addr) (ac : Nat) (all : List BS) (fa : List Nat), us = [.int .i64 (k : Int), .slice aa all.length ac] ∧ row (.slice aa (all).length ac) 41 1 ((all).map BS.val) :: dat fa ⟨all, [], []⟩ :: lblk b29 p pre (mkT ga gc m (foldS cf (m.take k) Sc0)) :: row (.slice ga m.length gc) 3 1 (m.flatMap encN) :: DS.H p s H = H' ∧ k ≤ m.length ∧ (foldR cf (m.take k) Sc0 = all.map BS.l) ∧ (wholeTo cf m k)) (fun us => match us with | .int _ i :: _ => m.length - i.toNat | _ => 0) ⟨0, none, 0, [], [], rfl, rfl, by omega, foldR_0 _ _ _, wholeTo_0 _ _⟩ (fun w hw => open_s2 (Subs.st inferInstance w hw)) ?_
    rintro τ1 _ _  ⟨k, aa, ac, all, fa, rfl, rfl, hk0, hall, hwh⟩ _
    refine T_seq ?_
    refine T_region ?_
    refine TL_q (Qt_lss rfl rfl) rfl ?_
    refine TL_nil ?_
    refine X_then ?_
    refine T_seq ?_
    refine T_cond rfl (fun h64 => ?_) (fun h64 => ?_)
    ·
      have p64 := h64
      try simp only [decide_eq_true_eq, decide_eq_false_iff_not, Bool.not_eq_true', Bool.not_eq_false', Option.isNone_iff_eq_none, ne_eq, Decidable.not_not, Int.not_lt, Int.not_le] at p64
      have hk : k < m.length := by omega
      have hml : m.length ≤ 1000 := by have := hp.length_eq; have := colN_len nf (namesE s.e2); omega
      refine T_skip ?_
      refine X_then ?_
      refine T_seq ?_
      refine T_block ?_
      refine T_seq ?_
      refine T_region ?_
      refine TL_q (Qt_move (.int .i64 _) rfl) rfl ?_
      refine TL_q (Qt_indexR rfl rfl (by omega) (by rw [encN_len]; omega)) rfl ?_
      refine TL_q (Qt_loadR (.int .i64 ((m[k] : Nat) : Int)) rfl (encN_get m k hk)) rfl ?_
      refine TL_q (Qt_assign (.int .i64 _) rfl) rfl ?_
      refine TL_q (Qt_assign (.int .i64 _) rfl) rfl ?_
      refine TL_nil ?_
      refine X_then ?_
      refine T_seq ?_
      refine T_region ?_
      refine TL_q (Qt_move (.pointer _) rfl) rfl ?_
      refine TL_q (Qt_move (.pointer _) rfl) rfl ?_
      refine TL_q (Qt_move (.int .i64 _) rfl) rfl ?_
      have hcfk := hcf _ (List.getElem_mem hk)
      refine TL_frontA (lblk b29 p pre (mkT ga gc m (foldS cf (m.take k) Sc0))) ?_
      refine TL_e rfl (Ef_call (name_c (t := (mkT ga gc m (foldS cf (m.take k) Sc0))) (by omega) (i := m[k]) (h1 _ (List.getElem_mem hk))) rfl (fun x72 => ?_))
      refine TL_conv (fun w hw => (Subs.st inferInstance w hw : St w0 (DS.H p s (lblk b29 p pre (mkT ga gc m (foldS cf (m.take k) Sc0)) :: row (.slice ga m.length gc) 3 1 (m.flatMap encN) :: row (.slice aa (all).length ac) 41 1 ((all).map BS.val) :: dat fa ⟨all, [], []⟩ :: H)) w)) ?_
      refine TL_e rfl (Ef_call (dread_c (p := p) (s := s) hok (by omega) (by omega) (nm := nmB pre m[k])) rfl (fun x73 => ?_))
      rw [show (oldE s.e2 (nmB pre m[k])).l = (cf m[k]) from by rw [cont_old, hcfk]; rfl]
      refine TL_q (Qt_move (.tuple _) rfl) rfl ?_
      refine TL_q (Qt_extract rfl) rfl ?_
      refine TL_q (Qt_extract rfl) rfl ?_
      refine TL_q (Qt_assign (.slice _ _ _) rfl) rfl ?_
      refine TL_q (Qt_assign (.int .i64 _) rfl) rfl ?_
      refine TL_nil ?_
      refine X_then ?_
      refine T_seq ?_
      refine T_region ?_
      refine TL_q (Qt_move (.pointer _) rfl) rfl ?_
      refine TL_q (Qt_move (.slice _ _ _) rfl) rfl ?_
      refine TL_frontA (lblk b29 p pre (mkT ga gc m (foldS cf (m.take k) Sc0))) ?_
      refine TL_e rfl (Ef_call (scanX_c (t := (mkT ga gc m (foldS cf (m.take k) Sc0))) (b := ⟨x73.a, x73.c, (cf m[k])⟩) (by have := hsz _ (List.getElem_mem hk); show (cf m[k]).length ≤ 4000000000; omega) (foldS_nx cf (m.take k) Sc0 (by decide))) rfl (fun x79 => ?_))
      refine TL_pure (fun h79 => ?_)
      have hat : x79.at_ ≤ (cf m[k]).length := by have h := (scanF_bound (cf m[k]) (foldS cf (m.take k) Sc0).bg (foldS_nx cf (m.take k) Sc0 (by decide))).1; rw [h79] at h; exact h
      have hrec : foldR cf (m.take (k + 1)) Sc0 = (all ++ x79.out).map BS.l := by rw [foldR_step cf m Sc0 k hk, h79, List.map_append, hall]
      have hlen := congrArg List.length hrec
      rw [List.length_map] at hlen
      have htk := htot (k + 1)
      rw [hlen, List.length_append] at htk
      have hstep : foldS cf (m.take (k + 1)) Sc0 = ⟨x79.at_, x79.nx, x79.bg⟩ := by rw [foldS_step cf m Sc0 k hk]; unfold scS; rw [h79]
      refine TL_q (Qt_move (.tuple _) rfl) rfl ?_
      refine TL_q (Qt_extract rfl) rfl ?_
      refine TL_q (Qt_extract rfl) rfl ?_
      refine TL_q (Qt_assign (.slice _ _ _) rfl) rfl ?_
      refine TL_q (Qt_assign (.int .i64 _) rfl) rfl ?_
      refine TL_nil ?_
      refine X_then ?_
      refine T_seq ?_
      refine T_region ?_
      refine TL_q (Qt_move (.slice _ _ _) rfl) rfl ?_
      refine TL_q (Qt_move (.slice _ _ _) rfl) rfl ?_
      refine TL_e rfl (Ef_append1 (sv := .slice _ _ _) (xv := .slice _ _ _) (xs := all.map BS.val) (news := x79.out.map BS.val) rfl rfl (fun u hu => by obtain ⟨z, -, rfl⟩ := List.mem_map.1 hu; rfl) (by simp only [List.length_map]; omega) rfl (fun a84 c84 => ?_))
      rw [← List.map_append, List.length_map]
      refine TL_q (Qt_assign (.slice _ _ _) rfl) rfl ?_
      refine TL_nil ?_
      refine X_then ?_
      refine T_seq ?_
      refine T_region ?_
      refine TL_q (Qt_move (.pointer _) rfl) rfl ?_
      refine TL_q (Qt_move (.int .i64 _) rfl) rfl ?_
      refine TL_q (Qt_nilCheck rfl) rfl ?_
      refine TL_q (Qt_fieldAddr 3 rfl rfl) rfl ?_
      refine TL_n (Ef_store1 (.int .i64 _) rfl rfl (?_))
      refine TL_nil ?_
      refine X_then ?_
      refine T_seq ?_
      refine T_region ?_
      refine TL_q (Qt_move (.int .i64 _) rfl) rfl ?_
      refine TL_q (Qt_move (.slice _ _ _) rfl) rfl ?_
      refine TL_q (Qt_len_slice rfl Tryz.underlying41) rfl ?_
      refine TL_q (Qt_lss rfl rfl) rfl ?_
      refine TL_nil ?_
      refine X_then ?_
      refine T_cond rfl (fun h92 => ?_) (fun h92 => ?_)
      ·
        have p92 := h92
        try simp only [decide_eq_true_eq, decide_eq_false_iff_not, Bool.not_eq_true', Bool.not_eq_false', Option.isNone_iff_eq_none, ne_eq, Decidable.not_not, Int.not_lt, Int.not_le] at p92
        refine T_seq ?_
        refine T_seq ?_
        refine T_region ?_
        refine TL_q (Qt_move (.pointer _) rfl) rfl ?_
        refine TL_q (Qt_move (.int .i64 _) rfl) rfl ?_
        refine TL_q (Qt_move (.slice _ _ _) rfl) rfl ?_
        refine TL_q (Qt_move (.int .i64 _) rfl) rfl ?_
        refine TL_q (Qt_sliceB_h x79.at_ rfl rfl hat) rfl ?_
        refine TL_conv (fun w hw => (Subs.st inferInstance w (open_row (m := m) (ga := ga) (gc := gc) (H := lblk b29 p pre (mkT ga gc m ⟨x79.at_, x79.nx, x79.bg⟩) :: DS.H p s (row (.slice x73.a (cf m[k]).length x73.c) 5 1 (bytesV (cf m[k])) :: row (.slice a84 (all ++ x79.out).length c84) 41 1 ((all ++ x79.out).map BS.val) :: dat x79.fo ⟨x79.out, [], []⟩ :: dat fa ⟨all, [], []⟩ :: H)) (Subs.st inferInstance w hw)) : St w0 (lblk b29 p pre (mkT ga gc m ⟨x79.at_, x79.nx, x79.bg⟩) :: lrow (mkT ga gc m ⟨x79.at_, x79.nx, x79.bg⟩) :: DS.H p s (row (.slice x73.a (cf m[k]).length x73.c) 5 1 (bytesV (cf m[k])) :: row (.slice a84 (all ++ x79.out).length c84) 41 1 ((all ++ x79.out).map BS.val) :: dat x79.fo ⟨x79.out, [], []⟩ :: dat fa ⟨all, [], []⟩ :: H)) w)) ?_
        refine TL_e rfl (Ef_call (keep_c (t := (mkT ga gc m ⟨x79.at_, x79.nx, x79.bg⟩)) (s := s) hok (by omega) hK hK2 hlv hs (by have := hp.length_eq; have := colN_len nf (namesE s.e2); show m.length ≤ 1000; omega) (k := k) hk h1 (hsrt.imp Nat.ne_of_lt) (fun n hn => has_cont (hcf n hn)) (g := (⟨x73.a, x73.c, (cf m[k]).take x79.at_⟩ : BS)) (by show ((cf m[k]).take x79.at_).length ≤ 2000000; rw [List.length_take]; have := hsz _ (List.getElem_mem hk); omega)) rfl (fun x98 => ?_))
        refine TL_pure (fun h98 => ?_)
        refine TL_q (Qt_assign (.int .i64 _) rfl) rfl ?_
        refine TL_nil ?_
        refine X_then ?_
        refine T_seq ?_
        refine T_region ?_
        refine TL_q (Qt_move (.int .i64 _) rfl) rfl ?_
        refine TL_q (Qt_neq rfl rfl) rfl ?_
        refine TL_nil ?_
        refine X_then ?_
        refine T_cond rfl (fun h100 => ?_) (fun h100 => ?_)
        ·
          have p100 := h100
          try simp only [decide_eq_true_eq, decide_eq_false_iff_not, Bool.not_eq_true', Bool.not_eq_false', Option.isNone_iff_eq_none, ne_eq, Decidable.not_not, Int.not_lt, Int.not_le] at p100
          obtain ⟨hok98, h98e⟩ := h98
          obtain ⟨he0, -⟩ | he4 := h98e.symm
          · exact absurd he0 p100
          refine T_seq ?_
          refine T_region ?_
          refine TL_q (Qt_move (.int .i64 _) rfl) rfl ?_
          refine TL_q (Qt_assign (.pointer _) rfl) rfl ?_
          refine TL_q (Qt_assign (.slice _ _ _) rfl) rfl ?_
          refine TL_q (Qt_assign (.int .i64 _) rfl) rfl ?_
          refine TL_nil ?_
          refine X_then ?_
          refine T_ret ?_
          refine X_then_ret ?_
          refine X_block_ret ?_
          refine X_then_ret ?_
          refine X_loop_ret ?_
          refine X_block_ret ?_
          refine X_then_ret ?_
          exact X_ret (⟨b29, none, none, 0, [], [], x98.1, x98.2.1, x98.2.2⟩ : OpR) [_, _, _] Tryz.results28 ⟨rfl, rfl, rfl, trivial⟩ rfl (fun w hw => open_err (Subs.st inferInstance w hw) ⟨hok98.mono (by show M + 2 + m.length ≤ M + 1100; have := hp.length_eq; have := colN_len nf (namesE s.e2); omega) (Nat.le_refl _), .inl ⟨he4, rfl, k, hk, by rw [h79]; show x79.at_ < _; omega⟩⟩)
        ·
          have p100 := h100
          try simp only [decide_eq_true_eq, decide_eq_false_iff_not, Bool.not_eq_true', Bool.not_eq_false', Option.isNone_iff_eq_none, ne_eq, Decidable.not_not, Int.not_lt, Int.not_le] at p100
          obtain ⟨hok98, h98e⟩ := h98
          obtain he4 | ⟨he0, hlv98, hr98, hp98, hq98, hc98, ht98⟩ := h98e
          · exact absurd he4 (by omega)
          refine T_skip ?_
          refine X_then ?_
          refine T_exit ?_
          refine X_block_far rfl ?_
          refine X_then_exit ?_
          refine X_loop_exit ?_
          refine X_block_exit ?_
          refine X_then ?_
          refine T_seq ?_
          refine T_region ?_
          refine TL_q (Qt_move (.pointer _) rfl) rfl ?_
          refine TL_q (Qt_move (.slice _ _ _) rfl) rfl ?_
          refine TL_q (Qt_assign (.pointer _) rfl) rfl ?_
          refine TL_q (Qt_assign (.slice _ _ _) rfl) rfl ?_
          refine TL_q (Qt_assign (.int .i64 _) rfl) rfl ?_
          refine TL_nil ?_
          refine X_then ?_
          refine T_ret ?_
          first
          | exact X_ret (⟨b29, some ⟨b29, 0, none⟩, aa, ac, all, fa, s, (mkT ga gc m (foldS cf m Sc0)), 0⟩ : OpR) [_, _, _] Tryz.results28 ⟨rfl, rfl, rfl, trivial⟩ rfl (fun w hw => (Subs.st inferInstance w (open_row (m := m) (ga := ga) (gc := gc) (H := lblk b29 p pre (mkT ga gc m (foldS cf m Sc0)) :: row (.slice aa (all).length ac) 41 1 ((all).map BS.val) :: dat fa ⟨all, [], []⟩ :: DS.H p s H) (Subs.st inferInstance w hw)) : St w0 (lblk b29 p pre (mkT ga gc m (foldS cf m Sc0)) :: lrow (mkT ga gc m (foldS cf m Sc0)) :: row (.slice aa (all).length ac) 41 1 ((all).map BS.val) :: dat fa ⟨all, [], []⟩ :: DS.H p s H) w).addPure ⟨hok.mono (by omega) (Nat.le_refl _), .inr ⟨rfl, rfl, .inl ⟨hwh, rfl, ⟨ga, gc, rfl⟩, hall.symm⟩⟩⟩)
          | exact X_ret (⟨b29, some ⟨b29, 0, none⟩, a84, c84, all ++ x79.out, fa ++ x79.fo, x98.1, x98.2.1, 0⟩ : OpR) [_, _, _] Tryz.results28 ⟨rfl, rfl, rfl, trivial⟩ rfl (fun w hw => (Subs.st inferInstance w (open_all (all := all) (o := x79.out) (fa := fa) (fo := x79.fo) (x := row (.slice a84 (all ++ x79.out).length c84) 41 1 ((all ++ x79.out).map BS.val)) (H := lblk b29 p pre x98.2.1 :: lrow x98.2.1 :: DS.H p x98.1 H) (Subs.st inferInstance w hw)) : St w0 (lblk b29 p pre x98.2.1 :: lrow x98.2.1 :: row (.slice a84 (all ++ x79.out).length c84) 41 1 ((all ++ x79.out).map BS.val) :: dat (fa ++ x79.fo) ⟨all ++ x79.out, [], []⟩ :: DS.H p x98.1 H) w).addPure ⟨hok98.mono (by show M + 2 + m.length ≤ M + 1100; have := hp.length_eq; have := colN_len nf (namesE s.e2); omega) (Nat.le_refl _), .inr ⟨rfl, rfl, .inr ⟨k, hk, hwh, by rw [h79]; show x79.at_ < _; omega, hlv98, hr98, hp98, hq98, by rw [h79]; exact hc98, ⟨ga, gc, by rw [hstep]; exact ht98⟩, hrec.symm⟩⟩⟩)
      ·
        have p92 := h92
        try simp only [decide_eq_true_eq, decide_eq_false_iff_not, Bool.not_eq_true', Bool.not_eq_false', Option.isNone_iff_eq_none, ne_eq, Decidable.not_not, Int.not_lt, Int.not_le] at p92
        have hwk : wholeTo cf m (k + 1) := wholeTo_succ hwh hk (by rw [h79]; show x79.at_ = _; omega)
        refine T_skip ?_
        refine X_block ?_
        refine X_then ?_
        refine T_region ?_
        first
          | refine TL_q (Qt_add rfl rfl (by omega) (by omega)) rfl ?_
          | refine TL_q (Qt_addw rfl rfl) rfl ?_
        refine TL_q (Qt_move (.int .i64 _) rfl) rfl ?_
        refine TL_nil ?_
        apply X_loop
        case ha => exact (by repeat (first | with_reducible exact agree_refl | refine agree_upd rfl ?_ | refine agree_mix rfl ?_ | refine agree_setAll rfl ?_))
        case hI => exact ⟨k + 1, a84, c84, all ++ x79.out, fa ++ x79.fo, rfl, rfl, by omega, hrec, hwk⟩
        case hm => exact by show m.length - (k + 1 : Int).toNat < m.length - (k : Int).toNat; omega
        case hH => exact fun w hw => (by rw [hstep]; exact Subs.st inferInstance w (open_all (all := all) (o := x79.out) (fa := fa) (fo := x79.fo) (x := row (.slice a84 (all ++ x79.out).length c84) 41 1 ((all ++ x79.out).map BS.val)) (H := lblk b29 p pre (mkT ga gc m ⟨x79.at_, x79.nx, x79.bg⟩) :: row (.slice ga m.length gc) 3 1 (m.flatMap encN) :: DS.H p s H) (Subs.st inferInstance w hw)))
    ·
      have p64 := h64
      try simp only [decide_eq_true_eq, decide_eq_false_iff_not, Bool.not_eq_true', Bool.not_eq_false', Option.isNone_iff_eq_none, ne_eq, Decidable.not_not, Int.not_lt, Int.not_le] at p64
      have hkn2 : k = m.length := by omega
      have htk2 : m.take k = m := by rw [hkn2]; exact List.take_length
      rw [htk2] at hall ⊢
      rw [hkn2] at hwh
      refine T_exit ?_
      refine X_then_exit ?_
      refine X_loop_exit ?_
      refine X_block_exit ?_
      refine X_then ?_
      refine T_seq ?_
      refine T_region ?_
      refine TL_q (Qt_move (.pointer _) rfl) rfl ?_
      refine TL_q (Qt_move (.slice _ _ _) rfl) rfl ?_
      refine TL_q (Qt_assign (.pointer _) rfl) rfl ?_
      refine TL_q (Qt_assign (.slice _ _ _) rfl) rfl ?_
      refine TL_q (Qt_assign (.int .i64 _) rfl) rfl ?_
      refine TL_nil ?_
      refine X_then ?_
      refine T_ret ?_
      first
      | exact X_ret (⟨b29, some ⟨b29, 0, none⟩, aa, ac, all, fa, s, (mkT ga gc m (foldS cf m Sc0)), 0⟩ : OpR) [_, _, _] Tryz.results28 ⟨rfl, rfl, rfl, trivial⟩ rfl (fun w hw => (Subs.st inferInstance w (open_row (m := m) (ga := ga) (gc := gc) (H := lblk b29 p pre (mkT ga gc m (foldS cf m Sc0)) :: row (.slice aa (all).length ac) 41 1 ((all).map BS.val) :: dat fa ⟨all, [], []⟩ :: DS.H p s H) (Subs.st inferInstance w hw)) : St w0 (lblk b29 p pre (mkT ga gc m (foldS cf m Sc0)) :: lrow (mkT ga gc m (foldS cf m Sc0)) :: row (.slice aa (all).length ac) 41 1 ((all).map BS.val) :: dat fa ⟨all, [], []⟩ :: DS.H p s H) w).addPure ⟨hok.mono (by omega) (Nat.le_refl _), .inr ⟨rfl, rfl, .inl ⟨hwh, rfl, ⟨ga, gc, rfl⟩, hall.symm⟩⟩⟩)
      | exact X_ret (⟨b29, some ⟨b29, 0, none⟩, a84, c84, all ++ x79.out, fa ++ x79.fo, x98.1, x98.2.1, 0⟩ : OpR) [_, _, _] Tryz.results28 ⟨rfl, rfl, rfl, trivial⟩ rfl (fun w hw => (Subs.st inferInstance w (open_all (all := all) (o := x79.out) (fa := fa) (fo := x79.fo) (x := row (.slice a84 (all ++ x79.out).length c84) 41 1 ((all ++ x79.out).map BS.val)) (H := lblk b29 p pre x98.2.1 :: lrow x98.2.1 :: DS.H p x98.1 H) (Subs.st inferInstance w hw)) : St w0 (lblk b29 p pre x98.2.1 :: lrow x98.2.1 :: row (.slice a84 (all ++ x79.out).length c84) 41 1 ((all ++ x79.out).map BS.val) :: dat (fa ++ x79.fo) ⟨all ++ x79.out, [], []⟩ :: DS.H p x98.1 H) w).addPure ⟨hok98.mono (by show M + 2 + m.length ≤ M + 1100; have := hp.length_eq; have := colN_len nf (namesE s.e2); omega) (Nat.le_refl _), .inr ⟨rfl, rfl, .inr ⟨k, hk, hwh, by rw [h79]; show x79.at_ < _; omega, hlv98, hr98, hp98, hq98, by rw [h79]; exact hc98, ⟨ga, gc, by rw [hstep]; exact ht98⟩, hrec.symm⟩⟩⟩)
end
end Go.Proofs.YtgeknnclmhfjlaaGreatDoor
