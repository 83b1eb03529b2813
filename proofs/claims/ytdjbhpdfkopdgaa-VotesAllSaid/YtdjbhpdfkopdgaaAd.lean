/- Walks: the keys of a map, at keys that are structs, sorted by a function. -/
import Derived.Shelf.SlSortCmp.WholeK
import Derived.Test.YtdjbhpdfkopdgaaAc
import Derived.Test.YtdjbhpdfkopdgaaNf
import Derived.Test.YtdjbhpdfkopdgaaSu
namespace Go.Proofs.Ytdjbhpdfkopdgaa
open Go.RowKit Go.Sx
set_option maxRecDepth 100000
set_option linter.unusedSimpArgs false
set_option linter.unusedVariables false
open Go.Maps Go.Sort Go.Shelf Go.Lib
set_option maxHeartbeats 1000000 in
theorem len64_0_c {w0 : World} {H : List SA}  :
    CT Try.prog w0 (H) 75 [.int .u64 0] (α := Unit) (fun _ => .int .i64 0) (fun _ => H) := by
  refine CT_intro Try.func75 rfl Try.ntmps75 rfl ?_
  refine T_seq ?_
  refine T_region ?_
  refine TL_q (Qt_assign (.int .i64 _) rfl) rfl ?_
  refine TL_nil ?_
  refine X_then ?_
  refine T_seq ?_
  refine T_seq ?_
  refine T_region ?_
  refine TL_q (Qt_move (.int .u64 _) rfl) rfl ?_
  refine TL_q (Qt_geq rfl rfl) rfl ?_
  refine TL_nil ?_
  refine X_then ?_
  refine T_cond_false rfl (by first | rfl | decide) ?_
  refine T_skip ?_
  refine X_then ?_
  refine T_seq ?_
  refine T_seq ?_
  refine T_region ?_
  refine TL_q (Qt_move (.int .u64 _) rfl) rfl ?_
  refine TL_q (Qt_geq rfl rfl) rfl ?_
  refine TL_nil ?_
  refine X_then ?_
  refine T_cond_false rfl (by first | rfl | decide) ?_
  refine T_skip ?_
  refine X_then ?_
  refine T_seq ?_
  refine T_seq ?_
  refine T_region ?_
  refine TL_q (Qt_move (.int .u64 _) rfl) rfl ?_
  refine TL_q (Qt_geq rfl rfl) rfl ?_
  refine TL_nil ?_
  refine X_then ?_
  refine T_cond_false rfl (by first | rfl | decide) ?_
  refine T_skip ?_
  refine X_then ?_
  refine T_seq ?_
  refine T_region ?_
  refine TL_q (Qt_move (.int .i64 _) rfl) rfl ?_
  refine TL_q (Qt_move (.int .u64 _) rfl) rfl ?_
  refine TL_q (Qt_conv rfl rfl Try.underlying5) rfl ?_
  refine TL_q (Qt_index_str (j := 0) (0 : UInt8) rfl rfl Try.underlying9 (by kernel_rfl)) rfl ?_
  refine TL_q (Qt_conv rfl rfl Try.underlying3) rfl ?_
  refine TL_q (Qt_val (v' := .int .i64 0) (Qt_addw rfl rfl) (by simp [IntKind.wrap, IntKind.bits, IntKind.signed])) rfl ?_
  refine TL_q (Qt_assign (.int .i64 _) rfl) rfl ?_
  refine TL_nil ?_
  refine X_then ?_
  refine T_ret ?_
  exact X_ret () [_] Try.results75 ⟨rfl, trivial⟩ rfl (Subs.st inferInstance)
set_option maxHeartbeats 1000000 in
theorem len_0_c {w0 : World} {H : List SA}  :
    CT Try.prog w0 (H) 65 [.int .u64 0] (α := Unit) (fun _ => .int .i64 0) (fun _ => H) := by
  refine CT_intro Try.func65 rfl Try.ntmps65 rfl ?_
  refine T_seq ?_
  refine T_region ?_
  refine TL_q (Qt_assign (.int .i64 _) rfl) rfl ?_
  refine TL_nil ?_
  refine X_then ?_
  refine T_seq ?_
  refine T_cond_false rfl (by first | rfl | decide) ?_
  refine T_skip ?_
  refine X_then ?_
  refine T_seq ?_
  refine T_region ?_
  refine TL_q (Qt_move (.int .u64 _) rfl) rfl ?_
  refine TL_e rfl (Ef_call (len64_0_c) rfl (fun x7 => ?_))
  refine TL_q (Qt_assign (.int .i64 _) rfl) rfl ?_
  refine TL_nil ?_
  refine X_then ?_
  refine T_ret ?_
  exact X_ret () [_] Try.results65 ⟨rfl, trivial⟩ rfl (Subs.st inferInstance)
set_option maxHeartbeats 1000000 in
theorem ins0_c {w0 : World} {H : List SA} {a : Option Addr} {c : Nat} {f : Value} :
    CT Try.prog w0 (H) 66 [.slice a 0 c, .int .i64 0, .int .i64 0, f] (α := Unit) (fun _ => .tuple #[]) (fun _ => H) := by
  refine CT_intro Try.func66 rfl Try.ntmps66 rfl ?_
  refine T_seq ?_
  refine T_region ?_
  refine TL_q (Qt_move (.int .i64 _) rfl) rfl ?_
  first
    | refine TL_q (Qt_add rfl rfl (by omega) (by omega)) rfl ?_
    | refine TL_q (Qt_addw rfl rfl) rfl ?_
  refine TL_q (Qt_assign (.int .i64 _) rfl) rfl ?_
  refine TL_nil ?_
  refine X_then ?_
  refine T_block ?_
  refine T_unroll (TU_round ?_)
  refine T_seq ?_
  refine T_seq ?_
  refine T_region ?_
  refine TL_q (Qt_move (.int .i64 _) rfl) rfl ?_
  refine TL_q (Qt_move (.int .i64 _) rfl) rfl ?_
  refine TL_q (Qt_lss rfl rfl) rfl ?_
  refine TL_nil ?_
  refine X_then ?_
  refine T_cond_false rfl (by first | rfl | decide) ?_
  refine T_exit ?_
  refine X_then_exit ?_
  refine X_again_exit ?_
  refine X_block_exit ?_
  exact X_ret () [] Try.results66 trivial rfl (Subs.st inferInstance)
set_option maxHeartbeats 1000000 in
theorem pdq0_c {w0 : World} {H : List SA} {a : Option Addr} {c : Nat} {f : Value} {l : Int} :
    CT Try.prog w0 (H) 64 [.slice a 0 c, .int .i64 0, .int .i64 0, .int .i64 l, f] (α := Unit) (fun _ => .tuple #[]) (fun _ => H) := by
  refine CT_intro Try.func64 rfl Try.ntmps64 rfl ?_
  refine T_seq ?_
  refine T_region ?_
  refine TL_q (Qt_assign (.bool _) rfl) rfl ?_
  refine TL_nil ?_
  refine X_then ?_
  refine T_seq ?_
  refine T_region ?_
  refine TL_q (Qt_assign (.bool _) rfl) rfl ?_
  refine TL_nil ?_
  refine X_then ?_
  refine T_block ?_
  refine T_unroll (TU_round ?_)
  refine T_block ?_
  refine T_seq ?_
  refine T_region ?_
  refine TL_q (Qt_move (.int .i64 _) rfl) rfl ?_
  refine TL_q (Qt_move (.int .i64 _) rfl) rfl ?_
  first
    | refine TL_q (Qt_sub rfl rfl (by omega) (by omega)) rfl ?_
    | refine TL_q (Qt_subw rfl rfl) rfl ?_
  refine TL_q (Qt_assign (.int .i64 _) rfl) rfl ?_
  refine TL_nil ?_
  refine X_then ?_
  refine T_seq ?_
  refine T_seq ?_
  refine T_region ?_
  refine TL_q (Qt_move (.int .i64 _) rfl) rfl ?_
  refine TL_q (Qt_leq rfl rfl) rfl ?_
  refine TL_nil ?_
  refine X_then ?_
  refine T_cond_true rfl (by first | rfl | decide) ?_
  refine T_seq ?_
  refine T_region ?_
  refine TL_q (Qt_move (.slice _ _ _) rfl) rfl ?_
  refine TL_q (Qt_move (.int .i64 _) rfl) rfl ?_
  refine TL_q (Qt_move (.int .i64 _) rfl) rfl ?_
  refine TL_q (Qt_move _ rfl) rfl ?_
  refine TL_e rfl (Ef_call (ins0_c) rfl (fun x30 => ?_))
  refine TL_nil ?_
  refine X_then ?_
  refine T_ret ?_
  refine X_then_ret ?_
  refine X_block_ret ?_
  refine X_again_ret ?_
  refine X_block_ret ?_
  exact X_ret () [] Try.results64 trivial rfl (Subs.st inferInstance)
set_option maxHeartbeats 1000000 in
theorem sortF0_c {w0 : World} {H : List SA} {a : Option Addr} {c : Nat} {f : Value} :
    CT Try.prog w0 (H) 60 [.slice a 0 c, f] (α := Unit) (fun _ => .tuple #[]) (fun _ => H) := by
  refine CT_intro Try.func60 rfl Try.ntmps60 rfl ?_
  refine T_seq ?_
  refine T_region ?_
  refine TL_q (Qt_move (.slice _ _ _) rfl) rfl ?_
  refine TL_q (Qt_len_slice rfl Try.underlying82) rfl ?_
  refine TL_q (Qt_assign (.int .i64 _) rfl) rfl ?_
  refine TL_nil ?_
  refine X_then ?_
  refine T_region ?_
  refine TL_q (Qt_move (.slice _ _ _) rfl) rfl ?_
  refine TL_q (Qt_move (.int .i64 _) rfl) rfl ?_
  refine TL_q (Qt_move (.int .i64 _) rfl) rfl ?_
  refine TL_q (Qt_conv rfl rfl Try.underlying100) rfl ?_
  refine TL_e rfl (Ef_call (len_0_c) rfl (fun x11 => ?_))
  refine TL_q (Qt_move _ rfl) rfl ?_
  refine TL_e rfl (Ef_call (pdq0_c) rfl (fun x13 => ?_))
  refine TL_nil ?_
  exact X_ret () [] Try.results60 trivial rfl (Subs.st inferInstance)
set_option maxHeartbeats 1000000 in
theorem keysF_c {w0 : World} {H : List SA} {r : Nat} :
    CT Try.prog w0 (H) 45 [.map (some r)] (α := Nat) (fun b => .func (.func 61) #[] #[.pointer (some ⟨b, 0, none⟩)]) (fun b => blk b (.cells #[.map (some r)] 55 (0, 0)) :: H) := by
  refine CT_intro Try.func45 rfl Try.ntmps45 rfl ?_
  refine T_seq ?_
  refine T_region ?_
  refine TL_e rfl (Ef_box1 (.map _) rfl (fun b1 => ?_))
  refine TL_q (Qt_assign _ rfl) rfl ?_
  refine TL_nil ?_
  refine X_then ?_
  refine T_seq ?_
  refine T_region ?_
  refine TL_q (Qt_makeFunc (args := [.pointer _]) rfl) rfl ?_
  refine TL_q (Qt_assign _ rfl) rfl ?_
  refine TL_nil ?_
  refine X_then ?_
  refine T_ret ?_
  exact X_ret b1 [_] Try.results45 ⟨rfl, trivial⟩ rfl (Subs.st inferInstance)
/-- An era within its bounds. -/
abbrev EK := Fin 61 × Fin 41
def toE (x : EK) : EraV := ⟨(x.1.val : Int), (x.2.val : Int)⟩
def encK (x : EK) : List Value := [.int .i64 (x.1.val : Int), .int .i64 (x.2.val : Int)]
def cfK (x y : EK) : Int := if x.1.val = y.1.val then (x.2.val : Int) - (y.2.val : Int) else (x.1.val : Int) - (y.1.val : Int)
theorem toE_list (x : EK) : (toE x).list = encK x := rfl
theorem toE_flat (ks : List EK) : (ks.map toE).flatMap EraV.list = ks.flatMap encK := by
  induction ks with
  | nil => rfl
  | cons k ks ih => rw [List.map_cons, List.flatMap_cons, List.flatMap_cons, ih, toE_list]
theorem of_grid {a : EraV} (h : a ∈ grid) : ∃ x : EK, a = toE x := by
  obtain ⟨⟨h1, h2⟩, h3, h4⟩ := (mem_grid a).1 h
  refine ⟨(⟨a.view.toNat, by omega⟩, ⟨a.reg.toNat, by omega⟩), ?_⟩
  cases a
  simp only [toE, EraV.mk.injEq]
  simp only at h1 h3
  omega
theorem of_grids : ∀ (ss : List EraV), (∀ a ∈ ss, a ∈ grid) → ∃ ks : List EK, ss = ks.map toE
  | [], _ => ⟨[], rfl⟩
  | a :: ss, h => by
    obtain ⟨x, hx⟩ := of_grid (h a (by simp))
    obtain ⟨ks, hk⟩ := of_grids ss (fun b hb => h b (by simp [hb]))
    exact ⟨x :: ks, by rw [hx, hk]; rfl⟩
theorem ltK_iff (x y : EK) : ltOf cfK x y = true ↔ x.1.val < y.1.val ∨ (x.1.val = y.1.val ∧ x.2.val < y.2.val) := by
  unfold ltOf cfK
  rw [decide_eq_true_eq]
  split <;> omega
theorem ltK_not (x y : EK) : ltOf cfK x y = false ↔ ¬ (x.1.val < y.1.val ∨ (x.1.val = y.1.val ∧ x.2.val < y.2.val)) := by
  rw [← ltK_iff, Bool.not_eq_true]
theorem swoK : SWO (ltOf cfK) :=
  ⟨fun x => by rw [ltK_not]; omega, fun x y z h1 h2 => by rw [ltK_iff] at *; omega, fun x y z h1 h2 => by rw [ltK_not] at *; omega⟩
theorem encK_len (x : EK) : (encK x).length = 2 := rfl
theorem flatK_eq (ks : List EK) : flatK encK 2 ks.toArray = (ks.flatMap encK).toArray := by
  have hl := flat_len encK 2 encK_len ks
  refine ext_get! (by simp [hl]) (fun t ht => ?_)
  have ht : t < ks.length * 2 := by simpa using ht
  rw [get_flatK _ _ _ t (by simpa using ht)]
  have hi : t / 2 < ks.length := by omega
  have h2 := flat_get encK 2 encK_len ks (t / 2) (t % 2) hi (by omega)
  rw [show t / 2 * 2 + t % 2 = t by omega] at h2
  rw [getElem!_pos ks.toArray (t / 2) (by simpa using hi), getElem!_pos (ks.flatMap encK).toArray t (by simp [hl]; exact ht)]
  have h3 : (ks.flatMap encK)[t]? = some (ks.flatMap encK)[t] := List.getElem?_eq_getElem (by rw [hl]; exact ht)
  rw [h3, List.getElem?_eq_getElem (by rw [encK_len]; omega)] at h2
  simp only [Option.some.injEq] at h2
  simp only [List.getElem_toArray]
  rw [h2, getElem!_pos _ _ (by rw [encK_len]; omega)]
set_option maxHeartbeats 1000000 in
theorem cmpK (x y : EK) (W : World) : Calls Try.prog 46 #[.agg (encK x).toArray, .agg (encK y).toArray] W fun e w' => e = .returned (.int .i64 (cfK x y)) ∧ ∃ q os', w' = grow (W.drewN q) os' := by
  obtain ⟨⟨x1, hx1⟩, ⟨x2, hx2⟩⟩ := x
  obtain ⟨⟨y1, hy1⟩, ⟨y2, hy2⟩⟩ := y
  have e1 : IntKind.i64.wrap ((x1 : Int) - (y1 : Int)) = (x1 : Int) - (y1 : Int) := by simp [IntKind.wrap, IntKind.bits, IntKind.signed]; omega
  have e2 : IntKind.i64.wrap ((x2 : Int) - (y2 : Int)) = (x2 : Int) - (y2 : Int) := by simp [IntKind.wrap, IntKind.bits, IntKind.signed]; omega
  by_cases h : x1 = y1
  · subst h
    simp only [encK, cfK, if_true]
    go_enter Try.func46, Try.ntmps46
    go_wp2
    go_ret
    exact ⟨by simp [e2], 0, _, by rw [alloc_eq_grow, alloc_eq_grow, grow_grow]; rfl⟩
  · simp only [encK, cfK, if_neg h]
    have h' : ((x1 : Int) == (y1 : Int)) = false := by simp; omega
    go_enter Try.func46, Try.ntmps46
    go_wp2
    go_ret
    exact ⟨by simp [e1], 0, _, by rw [alloc_eq_grow, alloc_eq_grow, grow_grow]; rfl⟩
theorem cmpLaysK (blk off size : Nat) (w : World) : CmpLays Try.prog 46 #[] encK 2 cfK blk off size w := fun _ _ _ _ x y => cmpK x y _
def SortedK (ks : List EK) : Prop := ks.Pairwise fun x y => ltOf cfK y x = false
set_option maxHeartbeats 1000000 in
theorem sortK_c {w0 : World} {H : List SA} {a : Option Addr} {c : Nat} {ks : List EK} (hk : ks.length ≤ 100000) : CT Try.prog w0 (row (.slice a ks.length c) 57 2 (ks.flatMap encK) :: H) 60 [.slice a ks.length c, .func (.func 46) #[] #[]] (α := List EK) (fun _ => .tuple #[]) (fun ys => pu (ys.Perm ks ∧ SortedK ys) :: row (.slice a ks.length c) 57 2 (ys.flatMap encK) :: H) := fun w hw => by
  cases hks : ks with
  | nil =>
    subst hks
    refine (sortF0_c (a := a) (c := c) (f := .func (.func 46) #[] #[]) w hw).mono ?_
    rintro e w' ⟨x, rfl, hw'⟩
    exact ⟨[], rfl, hw'.addPure ⟨List.Perm.refl _, List.Pairwise.nil⟩⟩
  | cons k0 kt =>
    rw [← hks]
    have h0 : 0 < ks.length := by rw [hks]; simp
    obtain ⟨a', n', c', hv, hl, hn, hc, ha, hx⟩ := hw.holds (row (.slice a ks.length c) 57 2 (ks.flatMap encK)) (by simp)
    cases hv
    have hc0 : c ≠ 0 := by omega
    obtain ⟨g, cur, rfl, hg, hcs, htk⟩ := hx hc0
    have hgl : g < w.heap.size := (Array.getElem?_eq_some_iff.1 hg).1
    have hfl := flat_len encK 2 encK_len ks
    have hH : HoldsK encK 2 w g 0 ks.toArray := by
      intro j hj
      have hj : j < ks.length * 2 := by simpa using hj
      rw [flatK_eq]
      have h1 : cur[j]? = some (ks.flatMap encK)[j]! := by
        have h2 : (cur.toList.take (ks.length * 2))[j]? = cur.toList[j]? := List.getElem?_take_of_lt hj
        rw [htk] at h2
        rw [← Array.getElem?_toList, ← h2, List.getElem?_eq_getElem (by rw [hfl]; exact hj), getElem!_pos _ _ (by rw [hfl]; exact hj)]
      refine ⟨?_, ?_⟩
      · rw [cell_of_blk hg, Nat.zero_add, h1]; simp
      · simp [World.frozen?, hg]
    have hcon := AnyQ.slices_SortFunc nmSortF 2 Try.isAgg57 Try.sizeOf57 encK encK_len (fun x v hv => by simp [encK] at hv; rcases hv with rfl | rfl <;> rfl) cfK swoK 46 #[] g 0 c ks.toArray w
      (enters_of Try.func46 (by kernel_rfl) rfl) (cmpLaysK _ _ _ _) hH hgl (by simp; omega)
    simp only [List.size_toArray] at hcon
    refine Calls.mono hcon ?_
    rintro e w' ⟨rfl, d', n, os, ⟨hp1, -, hp2⟩, hsd, rfl⟩
    have hp1 : d'.size = ks.length := by simpa using hp1
    have hperm : d'.toList.Perm ks := by
      have e1 : (d'.extract 0 ks.length).toList = d'.toList := by simp [← hp1]
      have e2 : (ks.toArray.extract 0 ks.length).toList = ks := by simp
      rw [e1, e2] at hp2
      exact hp2
    have hsort : SortedK d'.toList := by
      refine List.pairwise_iff_getElem.2 fun i j hi hj hij => ?_
      have hi : i < d'.size := by simpa using hi
      have hj : j < d'.size := by simpa using hj
      have := hsd i j (Nat.zero_le _) hij (by omega)
      rw [getElem!_pos d' i hi, getElem!_pos d' j hj] at this
      simpa using this
    have hfd : flatK encK 2 d' = (d'.toList.flatMap encK).toArray := by rw [← flatK_eq]
    have hfl2 := flat_len encK 2 encK_len d'.toList
    have hdl : d'.toList.length = ks.length := hperm.length_eq
    refine ⟨d'.toList, rfl, (St.swap (w' := sortWorldK encK 2 w g 0 n d' os) (x' := row (.slice (some ⟨g, 0, none⟩) ks.length c) 57 2 (d'.toList.flatMap encK)) hw rfl rfl rfl ?_ ?_ ?_ ?_ ?_).addPure (And.intro hperm hsort)⟩
    · simp [sortWorldK, grow, putRowK, putRow, mapBlock, ahead]
    · intro k hk hkn
      have hkg : k ≠ g := by rintro rfl; exact hkn (by simp [row, rowFp, hc0])
      show ((w.heap.modify g _) ++ os)[k]? = _
      rw [Array.getElem?_append_left (by simpa using hk), Array.getElem?_modify, if_neg (fun e => hkg e.symm)]
    · refine ⟨some ⟨g, 0, none⟩, ks.length, c, rfl, by rw [hfl2, hdl], hn, hc, (fun h => by cases h), fun _ => ⟨g, Go.Sort.putCells id 0 (flatK encK 2 d') cur, rfl, ?_, by simp [Go.Sort.putCells, hcs], ?_⟩⟩
      · show ((w.heap.modify g _) ++ os)[g]? = _
        rw [Array.getElem?_append_left (by simpa using hgl), Array.getElem?_modify, if_pos rfl, hg]
        rfl
      · rw [hfd]
        apply List.ext_getElem?
        intro j
        by_cases hj : j < ks.length * 2
        · have hjc : j < cur.size := by rw [hcs]; exact Nat.lt_of_lt_of_le hj (Nat.mul_le_mul_right 2 hn)
          rw [List.getElem?_take_of_lt hj, Array.getElem?_toList, Go.Sort.putCells, Array.getElem?_mapIdx, Array.getElem?_eq_getElem hjc]
          simp only [Option.map_some, List.size_toArray, Nat.zero_le, true_and, Nat.zero_add, Nat.sub_zero, hfl2, hdl, hj, if_true, id]
          rw [List.getElem?_eq_getElem (by rw [hfl2, hdl]; exact hj), getElem!_pos _ _ (by simp [hfl2, hdl]; exact hj)]
          simp
        · rw [List.getElem?_eq_none (by simp; omega), List.getElem?_eq_none (by rw [hfl2, hdl]; omega)]
    · simp [row, rowFp, hc0]
    · intro b hb
      obtain rfl : b = g := by simpa [row, rowFp, hc0] using hb
      exact ⟨.inl (by simp [row, rowFp, hc0]), by simp [sortWorldK, grow, putRowK, putRow, mapBlock, ahead]; omega⟩
theorem collectK_c {w0 : World} {H : List SA} {b r c : Nat} {es : List (Ent EraV VoteV)} [hb : Mem w0 H b (.cells #[.map (some r)] 55 (0, 0))] [hm : Mem w0 H r (mapO encE encV es c)] (hg : GoodM es c) (hin : ∀ e ∈ es, e.k ∈ grid) (hn : es.length ≤ 100000) :
    CT Try.prog w0 H 59 [.func (.func 61) #[] #[.pointer (some ⟨b, 0, none⟩)]] (α := AC × List EK) (fun y => .slice y.1.a y.2.length y.1.c) (fun y => pu ((y.2.map toE).Perm (es.map (·.k))) :: row (.slice y.1.a y.2.length y.1.c) 57 2 (y.2.flatMap encK) :: H) := fun w hw => by
  have h1 := hb.get w hw
  refine (callsIn_wide.1 (collectS_in Fence.wide 5 trivial trivial rfl (by omega) 61 #[.pointer (some ⟨b, 0, none⟩)] trivial (enters_of Try.func61 (by kernel_rfl) rfl) (fun ss => ss.Perm (es.map (·.k))) es.length hn w
    (keysS_stops Fence.wide _ trivial rfl (by omega) b r c es hg w (Array.getElem?_eq_some_iff.1 h1).1 (by rw [cell_of_blk h1]; rfl) (hm.get w hw)))).mono ?_
  rintro e w' ⟨v, ss, rfl, hS, hrow, hbe⟩
  obtain ⟨ks, rfl⟩ := of_grids ss (fun a ha => by
    obtain ⟨e, he, rfl⟩ := List.mem_map.1 (hS.mem_iff.1 ha)
    exact hin e he)
  rw [toE_flat, List.length_map] at hrow
  obtain ⟨q1, q2⟩ := hrow
  rcases q2 with ⟨rfl, h0⟩ | ⟨g, cap, cur, rfl, hge, hgc, q3, q4, q5, q6⟩
  · obtain rfl := List.eq_nil_of_length_eq_zero h0
    refine ⟨(⟨none, 0⟩, []), rfl, (hw.fresh (x' := row (.slice none 0 0) 57 2 []) hbe.os hbe.tape hbe.output hbe.size hbe.block ?_ (by simp [row, rowFp]) (by simp [row, rowFp])).addPure hS⟩
    exact ⟨none, 0, 0, rfl, rfl, Nat.le_refl _, by unfold maxLen; omega, fun _ => rfl, fun h => absurd rfl h⟩
  · have hgl : g < w'.heap.size := (Array.getElem?_eq_some_iff.1 hgc).1
    refine ⟨(⟨some ⟨g, 0, none⟩, cap⟩, ks), rfl, (hw.fresh (x' := row (.slice (some ⟨g, 0, none⟩) ks.length cap) 57 2 (ks.flatMap encK)) hbe.os hbe.tape hbe.output hbe.size hbe.block ?_ ?_ ?_).addPure hS⟩
    · exact ⟨some ⟨g, 0, none⟩, ks.length, cap, rfl, q1, q3, q4, (fun h => by cases h), fun _ => ⟨g, cur, rfl, hgc, q5, q6⟩⟩
    · by_cases h0 : cap = 0 <;> simp [row, rowFp, h0]
    · intro b' hb'
      by_cases h0 : cap = 0
      · simp [row, rowFp, h0] at hb'
      · obtain rfl : b' = g := by simpa [row, rowFp, h0] using hb'
        exact ⟨hge, hgl⟩
theorem sortedK_mem {ks : List EK} {l : List EraV} (hp : (ks.map toE).Perm l) (hs : SortedK ks) (hn : l.Nodup) : (ks.map toE).Pairwise keyLt := by
  have hnd : (ks.map toE).Nodup := hp.nodup_iff.2 hn
  have h2 : ks.Pairwise fun x y => toE x ≠ toE y := List.pairwise_map.1 hnd
  refine List.pairwise_map.2 ((hs.and h2).imp fun {x y} h => ?_)
  obtain ⟨h1, h2⟩ := h
  rw [ltK_not] at h1
  have h3 : ¬ (x.1.val = y.1.val ∧ x.2.val = y.2.val) := fun h => h2 (by unfold toE; rw [h.1, h.2])
  show (x.1.val : Int) < (y.1.val : Int) ∨ ((x.1.val : Int) = (y.1.val : Int) ∧ (x.2.val : Int) < (y.2.val : Int))
  omega
set_option maxHeartbeats 1000000 in
theorem sortedK_c {w0 : World} {H : List SA} {b r c : Nat} {es : List (Ent EraV VoteV)} [hb : Mem w0 H b (.cells #[.map (some r)] 55 (0, 0))] [hm : Mem w0 H r (mapO encE encV es c)] (hg : GoodM es c) (hin : ∀ e ∈ es, e.k ∈ grid) (hn : es.length ≤ 100000) :
    CT Try.prog w0 (H) 44 [.func (.func 61) #[] #[.pointer (some ⟨b, 0, none⟩)], .func (.func 46) #[] #[]] (α := AC × List EK) (fun y => .slice y.1.a y.2.length y.1.c) (fun y => pu ((y.2.map toE).Perm (es.map (·.k)) ∧ SortedK y.2) :: row (.slice y.1.a y.2.length y.1.c) 57 2 (y.2.flatMap encK) :: H) := by
  refine CT_intro Try.func44 rfl Try.ntmps44 rfl ?_
  refine T_seq ?_
  refine T_region ?_
  refine TL_q (Qt_assign (.slice _ _ _) rfl) rfl ?_
  refine TL_nil ?_
  refine X_then ?_
  refine T_seq ?_
  refine T_region ?_
  refine TL_q (Qt_move _ rfl) rfl ?_
  refine TL_e rfl (Ef_call (collectK_c (b := b) (r := r) (c := c) hg hin hn) rfl (fun x7 => ?_))
  refine TL_pure (fun h7 => ?_)
  have hl7 : x7.2.length ≤ 100000 := by have := h7.length_eq; simp at this; omega
  refine TL_q (Qt_assign (.slice _ _ _) rfl) rfl ?_
  refine TL_nil ?_
  refine X_then ?_
  refine T_seq ?_
  refine T_region ?_
  refine TL_q (Qt_move (.slice _ _ _) rfl) rfl ?_
  refine TL_q (Qt_move _ rfl) rfl ?_
  refine TL_e rfl (Ef_call (sortK_c (a := x7.1.a) (c := x7.1.c) (ks := x7.2) hl7) rfl (fun x10 => ?_))
  refine TL_pure (fun h10 => ?_)
  refine TL_nil ?_
  refine X_then ?_
  refine T_seq ?_
  refine T_region ?_
  refine TL_q (Qt_move (.slice _ _ _) rfl) rfl ?_
  refine TL_q (Qt_assign (.slice _ _ _) rfl) rfl ?_
  refine TL_nil ?_
  refine X_then ?_
  refine T_ret ?_
  have hle := h10.1.length_eq
  rw [← hle]
  exact X_ret (x7.1, x10) [_] Try.results44 ⟨rfl, trivial⟩ rfl (fun w hw => (Subs.st inferInstance w hw : St w0 (row (.slice x7.1.a x10.length x7.1.c) 57 2 (x10.flatMap encK) :: H) w).addPure ⟨(h10.1.map toE).trans h7, h10.2⟩)
end Go.Proofs.Ytdjbhpdfkopdgaa
