/- Walks: the keys of a map, at keys that are structs, sorted by a function. -/
import Derived.Test.YtgeknnclmhfjlaaGreatDoorSgP
import Derived.Shelf.SlSortCmp.WholeK
import Derived.Test.YtgeknnclmhfjlaaGreatDoorRcP
import Derived.Test.YtgeknnclmhfjlaaGreatDoorNf
import Derived.Test.YtgeknnclmhfjlaaGreatDoorSuP
namespace Go.Proofs.YtgeknnclmhfjlaaGreatDoor
section
open Go.RowKit Go.Sx
set_option maxRecDepth 100000
set_option linter.unusedSimpArgs false
set_option linter.unusedVariables false
open Go.Maps Go.Sort Go.Shelf Go.Lib
set_option maxHeartbeats 1000000 in
theorem len64_0_c {w0 : World} {H : List SA}  :
 CT Tryz.prog w0 (H) 162 [.int .u64 0] (α := Unit) (fun _ => .int .i64 0) (fun _ => H) := by
 refine CT_intro Tryz.func162 rfl Tryz.ntmps162 rfl ?_
 refine T2 (Qai rfl rfl (TX (zS (T2 ?_))))
 refine zq (zm (.int .u64 _) rfl) rfl (zq (Qt_geq rfl rfl) rfl (TX (T_cond_false rfl (by first | rfl | decide) (zk (zx (zS (T2 ?_)))))))
 refine zq (zm (.int .u64 _) rfl) rfl (zq (Qt_geq rfl rfl) rfl (TX (T_cond_false rfl (by first | rfl | decide) (zk (zx (zS (T2 ?_)))))))
 refine zq (zm (.int .u64 _) rfl) rfl (zq (Qt_geq rfl rfl) rfl (TX (T_cond_false rfl (by first | rfl | decide) (S4 (Qmi rfl rfl ?_)))))
 refine zq (zm (.int .u64 _) rfl) rfl (zq (Qt_conv rfl rfl Tryz.underlying5) rfl (zq (Qt_index_str (j := 0) (0 : UInt8) rfl rfl Tryz.underlying9 (by kernel_rfl)) rfl (zq (Qt_conv rfl rfl Tryz.underlying3) rfl (zq (Qt_val (v' := .int .i64 0) (Qt_addw rfl rfl) (by simp [IntKind.wrap, IntKind.bits, IntKind.signed])) rfl (Qai rfl rfl ?_)))))
 refine TX (zQ ?_)
 exact zX () [_] Tryz.results162 ⟨rfl, trivial⟩ rfl SB
set_option maxHeartbeats 1000000 in
theorem len_0_c {w0 : World} {H : List SA}  :
 CT Tryz.prog w0 (H) 107 [.int .u64 0] (α := Unit) (fun _ => .int .i64 0) (fun _ => H) := by
 refine CT_intro Tryz.func107 rfl Tryz.ntmps107 rfl ?_
 refine T2 (Qai rfl rfl (TX (zS ?_)))
 refine T_cond_false rfl (by first | rfl | decide) (S4 (zq (zm (.int .u64 _) rfl) rfl ?_))
 refine ze rfl (zc (len64_0_c) rfl (fun x7 => ?_))
 refine Qai rfl rfl (TX (zQ ?_))
 exact zX () [_] Tryz.results107 ⟨rfl, trivial⟩ rfl SB
set_option maxHeartbeats 1000000 in
theorem ins0_c {w0 : World} {H : List SA} {a : Option Addr} {c : Nat} {f : Value} :
 CT Tryz.prog w0 (H) 197 [.slice a 0 c, .int .i64 0, .int .i64 0, f] (α := Unit) (fun _ => .tuple #[]) (fun _ => H) := by
 refine CT_intro Tryz.func197 rfl Tryz.ntmps197 rfl ?_
 refine T2 (Qmi rfl rfl (zq (Qt_add rfl rfl (by omega) (by omega)) rfl (Qai rfl rfl (TX (zB ?_)))))
 refine T_unroll (TU_round ?_)
 refine zS (T2 ?_)
 refine Qmi rfl rfl (Qmi rfl rfl (zq (Qt_lss rfl rfl) rfl (TX (T_cond_false rfl (by first | rfl | decide) (zY (zG ?_))))))
 refine X_again_exit (zE ?_)
 exact zX () [] Tryz.results197 trivial rfl SB
set_option maxHeartbeats 1000000 in
theorem pdq0_c {w0 : World} {H : List SA} {a : Option Addr} {c : Nat} {f : Value} {l : Int} :
 CT Tryz.prog w0 (H) 173 [.slice a 0 c, .int .i64 0, .int .i64 0, .int .i64 l, f] (α := Unit) (fun _ => .tuple #[]) (fun _ => H) := by
 refine CT_intro Tryz.func173 rfl Tryz.ntmps173 rfl ?_
 refine T2 (Qab rfl rfl (T4 (Qab rfl rfl (TX (zB ?_)))))
 refine T_unroll (TU_round ?_)
 refine zB (T2 ?_)
 refine Qmi rfl rfl (Qmi rfl rfl (zq (Qt_sub rfl rfl (by omega) (by omega)) rfl (Qai rfl rfl (TX (zS (T2 ?_))))))
 refine Qmi rfl rfl (zq (Qt_leq rfl rfl) rfl (TX (T_cond_true rfl (by first | rfl | decide) (T2 (Qms rfl rfl ?_)))))
 refine Qmi rfl rfl (Qmi rfl rfl (zq (zm _ rfl) rfl ?_))
 refine ze rfl (zc (ins0_c) rfl (fun x30 => ?_))
 refine TX (zQ (zr (zb ?_)))
 refine X_again_ret (zb ?_)
 exact zX () [] Tryz.results173 trivial rfl SB
set_option maxHeartbeats 1000000 in
theorem sortF0_c {w0 : World} {H : List SA} {a : Option Addr} {c : Nat} {f : Value} :
 CT Tryz.prog w0 (H) 126 [.slice a 0 c, f] (α := Unit) (fun _ => .tuple #[]) (fun _ => H) := by
 refine CT_intro Tryz.func126 rfl Tryz.ntmps126 rfl ?_
 refine T2 (Qms rfl rfl (zq (zL rfl Tryz.underlying155) rfl (Qai rfl rfl (TX (zR ?_)))))
 refine Qms rfl rfl (Qmi rfl rfl (Qmi rfl rfl (zq (Qt_conv rfl rfl Tryz.underlying199) rfl ?_)))
 refine ze rfl (zc (len_0_c) rfl (fun x11 => ?_))
 refine zq (zm _ rfl) rfl ?_
 refine ze rfl (zc (pdq0_c) rfl (fun x13 => ?_))
 refine zz ?_
 exact zX () [] Tryz.results126 trivial rfl SB
set_option maxHeartbeats 1000000 in
theorem keysF_c {w0 : World} {H : List SA} {r : Nat} :
 CT Tryz.prog w0 (H) 84 [.map (some r)] (α := Nat) (fun b => .func (.func 127) #[] #[.pointer (some ⟨b, 0, none⟩)]) (fun b => blk b (.cells #[.map (some r)] 110 (0, 0)) :: H) := by
 refine CT_intro Tryz.func84 rfl Tryz.ntmps84 rfl ?_
 refine T2 ?_
 refine ze rfl (Ef_box1 (.map _) rfl (fun b1 => ?_))
 refine zq (za _ rfl) rfl (T4 (zq (Qt_makeFunc (args := [.pointer _]) rfl) rfl (zq (za _ rfl) rfl (TX (zQ ?_)))))
 exact zX b1 [_] Tryz.results84 ⟨rfl, trivial⟩ rfl SB
/-- An era within its bounds. -/
abbrev EK := Fin 61 × Fin 41
def toE (x : EK) : EraV := ⟨(x.1.val : Int), (x.2.val : Int)⟩
def encK (x : EK) : List Value := [.int .i64 (x.1.val : Int), .int .i64 (x.2.val : Int)]
def cfK (x y : EK) : Int := if x.1.val = y.1.val then (x.2.val : Int) - (y.2.val : Int) else (x.1.val : Int) - (y.1.val : Int)
theorem toE_list (x : EK) : (toE x).list = encK x := rfl
theorem toE_flat (ks : List EK) : (ks.map toE).flatMap EraV.list = ks.flatMap encK := by
 induction ks with
 | nil => rfl
 | cons k ks ih => rw [List.map_cons, List.flatMap_cons, List.flatMap_cons, ih, toE_list]
theorem of_grid {a : EraV} (h : a ∈ grid) : ∃ x : EK, a = toE x := by
 obtain ⟨⟨h1, h2⟩, h3, h4⟩ := (mem_grid a).1 h
 refine ⟨(⟨a.view.toNat, by omega⟩, ⟨a.reg.toNat, by omega⟩), ?_⟩
 cases a
 simp only [toE, EraV.mk.injEq]
 simp only at h1 h3
 omega
theorem of_grids : ∀ (ss : List EraV), (∀ a ∈ ss, a ∈ grid) → ∃ ks : List EK, ss = ks.map toE
 | [], _ => ⟨[], rfl⟩
 | a :: ss, h => by
  obtain ⟨x, hx⟩ := of_grid (h a (by simp))
  obtain ⟨ks, hk⟩ := of_grids ss (fun b hb => h b (by simp [hb]))
  exact ⟨x :: ks, by rw [hx, hk]; rfl⟩
theorem ltK_iff (x y : EK) : ltOf cfK x y = true ↔ x.1.val < y.1.val ∨ (x.1.val = y.1.val ∧ x.2.val < y.2.val) := by
 unfold ltOf cfK
 rw [decide_eq_true_eq]
 split <;> omega
theorem ltK_not (x y : EK) : ltOf cfK x y = false ↔ ¬ (x.1.val < y.1.val ∨ (x.1.val = y.1.val ∧ x.2.val < y.2.val)) := by
 rw [← ltK_iff, Bool.not_eq_true]
theorem swoK : SWO (ltOf cfK) :=
 ⟨fun x => by rw [ltK_not]; omega, fun x y z h1 h2 => by rw [ltK_iff] at *; omega, fun x y z h1 h2 => by rw [ltK_not] at *; omega⟩
theorem encK_len (x : EK) : (encK x).length = 2 := rfl
theorem flatK_eq (ks : List EK) : flatK encK 2 ks.toArray = (ks.flatMap encK).toArray := by
 have hl := flat_len encK 2 encK_len ks
 refine ext_get! (by simp [hl]) (fun t ht => ?_)
 have ht : t < ks.length * 2 := by simpa using ht
 rw [get_flatK _ _ _ t (by simpa using ht)]
 have hi : t / 2 < ks.length := by omega
 have h2 := flat_get encK 2 encK_len ks (t / 2) (t % 2) hi (by omega)
 rw [show t / 2 * 2 + t % 2 = t by omega] at h2
 rw [getElem!_pos ks.toArray (t / 2) (by simpa using hi), getElem!_pos (ks.flatMap encK).toArray t (by simp [hl]; exact ht)]
 have h3 : (ks.flatMap encK)[t]? = some (ks.flatMap encK)[t] := List.getElem?_eq_getElem (by rw [hl]; exact ht)
 rw [h3, List.getElem?_eq_getElem (by rw [encK_len]; omega)] at h2
 simp only [Option.some.injEq] at h2
 simp only [List.getElem_toArray]
 rw [h2, getElem!_pos _ _ (by rw [encK_len]; omega)]
set_option maxHeartbeats 1000000 in
theorem cmpK (x y : EK) (W : World) : Calls Tryz.prog 85 #[.agg (encK x).toArray, .agg (encK y).toArray] W fun e w' => e = .returned (.int .i64 (cfK x y)) ∧ ∃ q os', w' = grow (W.drewN q) os' := by
 obtain ⟨⟨x1, hx1⟩, ⟨x2, hx2⟩⟩ := x
 obtain ⟨⟨y1, hy1⟩, ⟨y2, hy2⟩⟩ := y
 have e1 : IntKind.i64.wrap ((x1 : Int) - (y1 : Int)) = (x1 : Int) - (y1 : Int) := by simp [IntKind.wrap, IntKind.bits, IntKind.signed]; omega
 have e2 : IntKind.i64.wrap ((x2 : Int) - (y2 : Int)) = (x2 : Int) - (y2 : Int) := by simp [IntKind.wrap, IntKind.bits, IntKind.signed]; omega
 by_cases h : x1 = y1
 · subst h
   simp only [encK, cfK, if_true]
   go_enter Tryz.func85, Tryz.ntmps85
   go_wp2
   go_ret
   exact ⟨by simp [e2], 0, _, by rw [alloc_eq_grow, alloc_eq_grow, grow_grow]; rfl⟩
 · simp only [encK, cfK, if_neg h]
   have h' : ((x1 : Int) == (y1 : Int)) = false := by simp; omega
   go_enter Tryz.func85, Tryz.ntmps85
   go_wp2
   go_ret
   exact ⟨by simp [e1], 0, _, by rw [alloc_eq_grow, alloc_eq_grow, grow_grow]; rfl⟩
theorem cmpLaysK (blk off size : Nat) (w : World) : CmpLays Tryz.prog 85 #[] encK 2 cfK blk off size w := fun _ _ _ _ x y => cmpK x y _
def SortedK (ks : List EK) : Prop := ks.Pairwise fun x y => ltOf cfK y x = false
set_option maxHeartbeats 1000000 in
theorem sortK_c {w0 : World} {H : List SA} {a : Option Addr} {c : Nat} {ks : List EK} (hk : ks.length ≤ 100000) : CT Tryz.prog w0 (row (.slice a ks.length c) 112 2 (ks.flatMap encK) :: H) 126 [.slice a ks.length c, .func (.func 85) #[] #[]] (α := List EK) (fun _ => .tuple #[]) (fun ys => pu (ys.Perm ks ∧ SortedK ys) :: row (.slice a ks.length c) 112 2 (ys.flatMap encK) :: H) := fun w hw => by
 cases hks : ks with
 | nil =>
  subst hks
  refine (sortF0_c (a := a) (c := c) (f := .func (.func 85) #[] #[]) w hw).mono ?_
  rintro e w' ⟨x, rfl, hw'⟩
  exact ⟨[], rfl, hw'.addPure ⟨List.Perm.refl _, List.Pairwise.nil⟩⟩
 | cons k0 kt =>
  rw [← hks]
  have h0 : 0 < ks.length := by rw [hks]; simp
  obtain ⟨a', n', c', hv, hl, hn, hc, ha, hx⟩ := hw.holds (row (.slice a ks.length c) 112 2 (ks.flatMap encK)) (by simp)
  cases hv
  have hc0 : c ≠ 0 := by omega
  obtain ⟨g, cur, rfl, hg, hcs, htk⟩ := hx hc0
  have hgl : g < w.heap.size := (Array.getElem?_eq_some_iff.1 hg).1
  have hfl := flat_len encK 2 encK_len ks
  have hH : HoldsK encK 2 w g 0 ks.toArray := by
   intro j hj
   have hj : j < ks.length * 2 := by simpa using hj
   rw [flatK_eq]
   have h1 : cur[j]? = some (ks.flatMap encK)[j]! := by
    have h2 : (cur.toList.take (ks.length * 2))[j]? = cur.toList[j]? := List.getElem?_take_of_lt hj
    rw [htk] at h2
    rw [← Array.getElem?_toList, ← h2, List.getElem?_eq_getElem (by rw [hfl]; exact hj), getElem!_pos _ _ (by rw [hfl]; exact hj)]
   refine ⟨?_, ?_⟩
   · rw [cell_of_blk hg, Nat.zero_add, h1]; simp
   · simp [World.frozen?, hg]
  have hcon := AnyQ.slices_SortFunc nmSortF 2 Tryz.isAgg112 Tryz.sizeOf112 encK encK_len (fun x v hv => by simp [encK] at hv; rcases hv with rfl | rfl <;> rfl) cfK swoK 85 #[] g 0 c ks.toArray w
   (enters_of Tryz.func85 (by kernel_rfl) rfl) (cmpLaysK _ _ _ _) hH hgl (by simp; omega)
  simp only [List.size_toArray] at hcon
  refine Calls.mono hcon ?_
  rintro e w' ⟨rfl, d', n, os, ⟨hp1, -, hp2⟩, hsd, rfl⟩
  have hp1 : d'.size = ks.length := by simpa using hp1
  have hperm : d'.toList.Perm ks := by
   have e1 : (d'.extract 0 ks.length).toList = d'.toList := by simp [← hp1]
   have e2 : (ks.toArray.extract 0 ks.length).toList = ks := by simp
   rw [e1, e2] at hp2
   exact hp2
  have hsort : SortedK d'.toList := by
   refine List.pairwise_iff_getElem.2 fun i j hi hj hij => ?_
   have hi : i < d'.size := by simpa using hi
   have hj : j < d'.size := by simpa using hj
   have := hsd i j (Nat.zero_le _) hij (by omega)
   rw [getElem!_pos d' i hi, getElem!_pos d' j hj] at this
   simpa using this
  have hfd : flatK encK 2 d' = (d'.toList.flatMap encK).toArray := by rw [← flatK_eq]
  have hfl2 := flat_len encK 2 encK_len d'.toList
  have hdl : d'.toList.length = ks.length := hperm.length_eq
  refine ⟨d'.toList, rfl, (St.swap (w' := sortWorldK encK 2 w g 0 n d' os) (x' := row (.slice (some ⟨g, 0, none⟩) ks.length c) 112 2 (d'.toList.flatMap encK)) hw rfl rfl rfl ?_ ?_ ?_ ?_ ?_).addPure (And.intro hperm hsort)⟩
  · simp [sortWorldK, grow, putRowK, putRow, mapBlock, ahead]
  · intro k hk hkn
    have hkg : k ≠ g := by rintro rfl; exact hkn (by simp [row, rowFp, hc0])
    show ((w.heap.modify g _) ++ os)[k]? = _
    rw [Array.getElem?_append_left (by simpa using hk), Array.getElem?_modify, if_neg (fun e => hkg e.symm)]
  · refine ⟨some ⟨g, 0, none⟩, ks.length, c, rfl, by rw [hfl2, hdl], hn, hc, (fun h => by cases h), fun _ => ⟨g, Go.Sort.putCells id 0 (flatK encK 2 d') cur, rfl, ?_, by simp [Go.Sort.putCells, hcs], ?_⟩⟩
    · show ((w.heap.modify g _) ++ os)[g]? = _
      rw [Array.getElem?_append_left (by simpa using hgl), Array.getElem?_modify, if_pos rfl, hg]
      rfl
    · rw [hfd]
      apply List.ext_getElem?
      intro j
      by_cases hj : j < ks.length * 2
      · have hjc : j < cur.size := by rw [hcs]; exact Nat.lt_of_lt_of_le hj (Nat.mul_le_mul_right 2 hn)
        rw [List.getElem?_take_of_lt hj, Array.getElem?_toList, Go.Sort.putCells, Array.getElem?_mapIdx, Array.getElem?_eq_getElem hjc]
        simp only [Option.map_some, List.size_toArray, Nat.zero_le, true_and, Nat.zero_add, Nat.sub_zero, hfl2, hdl, hj, if_true, id]
        rw [List.getElem?_eq_getElem (by rw [hfl2, hdl]; exact hj), getElem!_pos _ _ (by simp [hfl2, hdl]; exact hj)]
        simp
      · rw [List.getElem?_eq_none (by simp; omega), List.getElem?_eq_none (by rw [hfl2, hdl]; omega)]
  · simp [row, rowFp, hc0]
  · intro b hb
    obtain rfl : b = g := by simpa [row, rowFp, hc0] using hb
    exact ⟨.inl (by simp [row, rowFp, hc0]), by simp [sortWorldK, grow, putRowK, putRow, mapBlock, ahead]; omega⟩
theorem collectK_c {w0 : World} {H : List SA} {b r c : Nat} {es : List (Ent EraV VoteV)} [hb : Mem w0 H b (.cells #[.map (some r)] 110 (0, 0))] [hm : Mem w0 H r (mapO encE encV es c)] (hg : GoodM es c) (hin : ∀ e ∈ es, e.k ∈ grid) (hn : es.length ≤ 100000) :
 CT Tryz.prog w0 H 125 [.func (.func 127) #[] #[.pointer (some ⟨b, 0, none⟩)]] (α := AC × List EK) (fun y => .slice y.1.a y.2.length y.1.c) (fun y => pu ((y.2.map toE).Perm (es.map (·.k))) :: row (.slice y.1.a y.2.length y.1.c) 112 2 (y.2.flatMap encK) :: H) := fun w hw => by
 have h1 := hb.get w hw
 refine (callsIn_wide.1 (collectS_in Fence.wide 5 trivial trivial rfl (by omega) 127 #[.pointer (some ⟨b, 0, none⟩)] trivial (enters_of Tryz.func127 (by kernel_rfl) rfl) (fun ss => ss.Perm (es.map (·.k))) es.length hn w
  (keysS_stops Fence.wide _ trivial rfl (by omega) b r c es hg w (Array.getElem?_eq_some_iff.1 h1).1 (by rw [cell_of_blk h1]; rfl) (hm.get w hw)))).mono ?_
 rintro e w' ⟨v, ss, rfl, hS, hrow, hbe⟩
 obtain ⟨ks, rfl⟩ := of_grids ss (fun a ha => by
  obtain ⟨e, he, rfl⟩ := List.mem_map.1 (hS.mem_iff.1 ha)
  exact hin e he)
 rw [toE_flat, List.length_map] at hrow
 obtain ⟨q1, q2⟩ := hrow
 rcases q2 with ⟨rfl, h0⟩ | ⟨g, cap, cur, rfl, hge, hgc, q3, q4, q5, q6⟩
 · obtain rfl := List.eq_nil_of_length_eq_zero h0
   refine ⟨(⟨none, 0⟩, []), rfl, (hw.fresh (x' := row (.slice none 0 0) 112 2 []) hbe.os hbe.tape hbe.output hbe.size hbe.block ?_ (by simp [row, rowFp]) (by simp [row, rowFp])).addPure hS⟩
   exact ⟨none, 0, 0, rfl, rfl, Nat.le_refl _, by unfold maxLen; omega, fun _ => rfl, fun h => absurd rfl h⟩
 · have hgl : g < w'.heap.size := (Array.getElem?_eq_some_iff.1 hgc).1
   refine ⟨(⟨some ⟨g, 0, none⟩, cap⟩, ks), rfl, (hw.fresh (x' := row (.slice (some ⟨g, 0, none⟩) ks.length cap) 112 2 (ks.flatMap encK)) hbe.os hbe.tape hbe.output hbe.size hbe.block ?_ ?_ ?_).addPure hS⟩
   · exact ⟨some ⟨g, 0, none⟩, ks.length, cap, rfl, q1, q3, q4, (fun h => by cases h), fun _ => ⟨g, cur, rfl, hgc, q5, q6⟩⟩
   · by_cases h0 : cap = 0 <;> simp [row, rowFp, h0]
   · intro b' hb'
     by_cases h0 : cap = 0
     · simp [row, rowFp, h0] at hb'
     · obtain rfl : b' = g := by simpa [row, rowFp, h0] using hb'
       exact ⟨hge, hgl⟩
theorem sortedK_mem {ks : List EK} {l : List EraV} (hp : (ks.map toE).Perm l) (hs : SortedK ks) (hn : l.Nodup) : (ks.map toE).Pairwise keyLt := by
 have hnd : (ks.map toE).Nodup := hp.nodup_iff.2 hn
 have h2 : ks.Pairwise fun x y => toE x ≠ toE y := List.pairwise_map.1 hnd
 refine List.pairwise_map.2 ((hs.and h2).imp fun {x y} h => ?_)
 obtain ⟨h1, h2⟩ := h
 rw [ltK_not] at h1
 have h3 : ¬ (x.1.val = y.1.val ∧ x.2.val = y.2.val) := fun h => h2 (by unfold toE; rw [h.1, h.2])
 show (x.1.val : Int) < (y.1.val : Int) ∨ ((x.1.val : Int) = (y.1.val : Int) ∧ (x.2.val : Int) < (y.2.val : Int))
 omega
set_option maxHeartbeats 1000000 in
theorem sortedK_c {w0 : World} {H : List SA} {b r c : Nat} {es : List (Ent EraV VoteV)} [hb : Mem w0 H b (.cells #[.map (some r)] 110 (0, 0))] [hm : Mem w0 H r (mapO encE encV es c)] (hg : GoodM es c) (hin : ∀ e ∈ es, e.k ∈ grid) (hn : es.length ≤ 100000) :
 CT Tryz.prog w0 (H) 83 [.func (.func 127) #[] #[.pointer (some ⟨b, 0, none⟩)], .func (.func 85) #[] #[]] (α := AC × List EK) (fun y => .slice y.1.a y.2.length y.1.c) (fun y => pu ((y.2.map toE).Perm (es.map (·.k)) ∧ SortedK y.2) :: row (.slice y.1.a y.2.length y.1.c) 112 2 (y.2.flatMap encK) :: H) := by
 refine CT_intro Tryz.func83 rfl Tryz.ntmps83 rfl ?_
 refine T2 (Qas rfl rfl (T4 (zq (zm _ rfl) rfl ?_)))
 refine ze rfl (zc (collectK_c (b := b) (r := r) (c := c) hg hin hn) rfl (fun x7 => ?_))
 refine TL_pure (fun h7 => ?_)
 have hl7 : x7.2.length ≤ 100000 := by have := h7.length_eq; simp at this; omega
 refine Qas rfl rfl (T4 (Qms rfl rfl (zq (zm _ rfl) rfl ?_)))
 refine ze rfl (zc (sortK_c (a := x7.1.a) (c := x7.1.c) (ks := x7.2) hl7) rfl (fun x10 => ?_))
 refine TL_pure (fun h10 => ?_)
 refine T4 (Qms rfl rfl (Qas rfl rfl (TX (zQ ?_))))
 have hle := h10.1.length_eq
 rw [← hle]
 exact zX (x7.1, x10) [_] Tryz.results83 ⟨rfl, trivial⟩ rfl (fun w hw => (SB w hw : St w0 (row (.slice x7.1.a x10.length x7.1.c) 112 2 (x10.flatMap encK) :: H) w).addPure ⟨(h10.1.map toE).trans h7, h10.2⟩)
end
section
open Go.RowKit Go.Sx
set_option maxRecDepth 100000
set_option linter.unusedSimpArgs false
set_option linter.unusedVariables false
def regB (en : Bool) (now : EraV) : List VoteV := if en then [regV (now.view, now.reg)] else []
def oneD (es : List (Ent EraV VoteV)) (x : EK) : VoteD := ((getE es (toE x)).getD VoteV.zero).abs
/-- The votes that a book tells. -/
structure AllB (y : BkS) (zs ds : List VoteV) : Prop where
  keys : ∃ ks : List EK, (ks.map toE).Perm (y.es.map (·.k)) ∧ SortedK ks ∧ zs.map VoteV.abs = (regB y.k.entered y.k.now).map VoteV.abs ++ (ks.map (oneD y.es) ++ (y.acc.map fun q => q.2.abs).toList)
  data : ∀ z ∈ zs, z = regV (y.k.now.view, y.k.now.reg) ∨ z ∈ ds
theorem Qt_loadKey {w0 : World} {H : List SA} {σ : Env} {d : Option Nat} {ty : TypeId} {pos : String} {aft : Array Edge} {g : Option (Nat × Bool)} {x : Operand} {n c k : Nat} {a : Option Addr} {ks : List EK} (hx : ev σ x = .pointer (ptrOf (.slice a n c) (k * 2))) [hr : RdC w0 H (.slice a n c) 2 (ks.flatMap encK)] (hk : k < ks.length) :
    Qt Tryz.prog w0 H σ ⟨d, .load 112 x, ty, pos, aft, g⟩ (.agg (toE ks[k]).cells) := Qt_loadRN 2 (encK ks[k]) hx (flat_slice _ 2 encK_len ks k hk) (encK_len _) (by decide)
theorem map_snoc {ks : List EK} {es : List (Ent EraV VoteV)} {zs : List VoteV} {R : List VoteD} {k : Nat} (hk : k < ks.length) (hz : zs.map VoteV.abs = R ++ (ks.take k).map (oneD es)) {v : VoteV} (hv : v.abs = oneD es ks[k]) : (zs ++ [v]).map VoteV.abs = R ++ (ks.take (k + 1)).map (oneD es) := by
  rw [List.map_append, hz, List.take_succ_eq_append_getElem hk, List.map_append, List.append_assoc]
  simp [hv]
set_option maxHeartbeats 1000000 in
theorem all_false {w0 : World} {H : List SA} {p r c : Nat} {now : EraV} {sl : Int} {ac : Option Addr} {es : List (Ent EraV VoteV)} {acc : Option (Nat × VoteV)} {fp : List Nat} {vs : List VoteV} (ho : BkS.Ok ⟨⟨now, false, sl, some r, ac⟩, r, es, c, acc, fp, vs⟩) (hin : ∀ e ∈ es, e.k ∈ grid) (hne : es.length ≤ 1000) :
    CT Tryz.prog w0 (BkS.H ⟨⟨now, false, sl, some r, ac⟩, r, es, c, acc, fp, vs⟩ p H) 44 [.pointer (some ⟨p, 0, none⟩)] (α := AC × List VoteV × List Nat × List VoteV) (fun z => .slice z.1.a z.2.1.length z.1.c) (fun z => pu (AllB ⟨⟨now, false, sl, some r, ac⟩, r, es, c, acc, fp, vs⟩ z.2.1 z.2.2.2) :: row (.slice z.1.a (z.2.1).length z.1.c) 44 38 ((z.2.1).flatMap VoteV.list) :: datV z.2.2.1 z.2.2.2 :: BkS.H ⟨⟨now, false, sl, some r, ac⟩, r, es, c, acc, fp, vs⟩ p H) := by
  refine CT_intro Tryz.func44 rfl Tryz.ntmps44 rfl ?_
  refine T_seq ?_
  refine T_region ?_
  refine TL_q (Qt_assign (.slice _ _ _) rfl) rfl ?_
  refine TL_nil ?_
  refine X_then ?_
  refine T_seq ?_
  refine T_seq ?_
  refine T_region ?_
  refine TL_q (Qt_move (.pointer _) rfl) rfl ?_
  refine TL_q (Qt_ptr_nil rfl rfl Tryz.underlying75) rfl ?_
  refine TL_nil ?_
  refine X_then ?_
  refine T_cond_false rfl (by first | rfl | decide) ?_
  refine T_skip ?_
  refine X_then ?_
  refine T_seq ?_
  refine T_region ?_
  refine TL_q (Qt_assign (.slice _ _ _) rfl) rfl ?_
  refine TL_nil ?_
  refine X_then ?_
  refine T_seq ?_
  refine T_seq ?_
  refine T_region ?_
  refine TL_q (Qt_move (.pointer _) rfl) rfl ?_
  refine TL_q (Qt_nilCheck rfl) rfl ?_
  refine TL_q (Qt_fieldAddr 2 rfl rfl) rfl ?_
  refine TL_q (Qt_load1 rfl) rfl ?_
  refine TL_nil ?_
  refine X_then ?_
  refine T_cond_false rfl (by first | rfl | decide) ?_
  refine T_skip ?_
  refine X_then ?_
  refine T_seq ?_
  refine T_region ?_
  refine TL_q (Qt_move (.pointer _) rfl) rfl ?_
  refine TL_q (Qt_nilCheck rfl) rfl ?_
  refine TL_q (Qt_fieldAddr 4 rfl rfl) rfl ?_
  refine TL_q (Qt_load1 rfl) rfl ?_
  refine TL_e rfl (Ef_call (keysF_c (r := r)) rfl (fun x33 => ?_))
  refine TL_e rfl (Ef_call (sortedK_c (b := x33) (r := r) (c := c) (es := es) ho.good hin (by omega)) rfl (fun x34 => ?_))
  refine TL_pure (fun h34 => ?_)
  have hkl : x34.2.length ≤ 1000 := by have := h34.1.length_eq; simp at this; omega
  refine TL_q (Qt_assign (.slice _ _ _) rfl) rfl ?_
  refine TL_nil ?_
  refine X_then ?_
  refine T_seq ?_
  refine T_seq ?_
  refine T_region ?_
  refine TL_q (Qt_move (.slice _ _ _) rfl) rfl ?_
  refine TL_q (Qt_len_slice rfl Tryz.underlying155) rfl ?_
  refine TL_q (Qt_move (.int .i64 _) rfl) rfl ?_
  refine TL_nil ?_
  refine X_then ?_
  refine T_block ?_
  refine T_loop [3, 6, 37, 38, 39, 40, 41, 42, 43, 44, 45, 46, 47, 48, 49, 50, 51] [37, 3] (fun us H' => ∃ (k : Nat) (a : Option Addr) (c2 : Nat) (zs : List VoteV) (fp2 : List Nat) (ds : List VoteV), us = [.int .i64 (k : Int), .slice a zs.length c2] ∧ row (.slice a (zs).length c2) 44 38 ((zs).flatMap VoteV.list) :: row (.slice x34.1.a x34.2.length x34.1.c) 112 2 (x34.2.flatMap encK) :: datV fp2 ds :: BkS.H ⟨⟨now, false, sl, some r, ac⟩, r, es, c, acc, fp, vs⟩ p H = H' ∧ k ≤ x34.2.length ∧ (zs.map VoteV.abs = (regB false now).map VoteV.abs ++ (x34.2.take k).map (oneD es)) ∧ (∀ z ∈ zs, z = (regV (now.view, now.reg)) ∨ z ∈ ds)) (fun us => match us with | .int _ i :: _ => x34.2.length - i.toNat | _ => 0) ⟨0, none, 0, [], [], [], rfl, rfl, by omega, by simp [regB], by simp⟩ (fun w hw => by
        have h0 : St w0 (row (.slice x34.1.a x34.2.length x34.1.c) 112 2 (x34.2.flatMap encK) :: BkS.H ⟨⟨now, false, sl, some r, ac⟩, r, es, c, acc, fp, vs⟩ p H) w := Subs.st inferInstance w hw
        exact Subs.st (H' := row (.slice none 0 0) 44 38 [] :: row (.slice x34.1.a x34.2.length x34.1.c) 112 2 (x34.2.flatMap encK) :: datV [] [] :: BkS.H ⟨⟨now, false, sl, some r, ac⟩, r, es, c, acc, fp, vs⟩ p H) inferInstance w (St.datNil (h0.addNil 44 38))) ?_
  rintro τ0 _ _  ⟨k, a, c2, zs, fp2, ds, rfl, rfl, hk0, hzs, hzd⟩ _
  refine T_seq ?_
  refine T_region ?_
  refine TL_q (Qt_lss rfl rfl) rfl ?_
  refine TL_nil ?_
  refine X_then ?_
  refine T_seq ?_
  refine T_cond rfl (fun h38 => ?_) (fun h38 => ?_)
  ·
    have p38 := h38
    try simp only [decide_eq_true_eq, decide_eq_false_iff_not, Bool.not_eq_true', Bool.not_eq_false', Option.isNone_iff_eq_none, ne_eq, Decidable.not_not, Int.not_lt, Int.not_le] at p38
    have hk : k < x34.2.length := by omega
    have hzl : zs.length ≤ 1 + k := by have := congrArg List.length hzs; simp [regB] at this; omega
    refine T_skip ?_
    refine X_then ?_
    refine T_seq ?_
    refine T_block ?_
    refine T_seq ?_
    refine T_region ?_
    refine TL_q (Qt_indexN rfl rfl (by omega) (by omega)) rfl ?_
    refine TL_q (Qt_loadKey (k := k) rfl hk) rfl ?_
    refine TL_e rfl (Ef_allocN (fun b6 => ?_))
    refine TL_n (Ef_storeN rfl rfl (?_))
    refine TL_nil ?_
    refine X_then ?_
    refine T_draw (blk b6 (.cells (toE x34.2[k]).cells 112 (0, 0)) :: BkS.H ⟨⟨now, false, sl, some r, ac⟩, r, es, c, acc, fp, vs⟩ p H) [(0, true), (1, true), (2, true), (3, true), (4, true), (5, true), (6, true), (7, false), (8, false), (9, false), (10, true)] (by kernel_rfl) (by kernel_rfl) rfl (by kernel_rfl) (Subs.st inferInstance) (fun hns0 => ?_)
    refine DL_q hns0 rfl (Qt_move (.slice _ _ _) rfl) rfl ?_
    refine DL_q hns0 rfl (Qt_move (.pointer _) rfl) rfl ?_
    refine DL_q hns0 rfl (Qt_nilCheck rfl) rfl ?_
    refine DL_q hns0 rfl (Qt_fieldAddr 4 rfl rfl) rfl ?_
    refine DL_q hns0 rfl (Qt_load1 rfl) rfl ?_
    refine DL_q hns0 rfl (Qt_loadN rfl rfl) rfl ?_
    refine DL_q hns0 rfl (Qt_lookup1 (key := (toE x34.2[k])) (VoteV.zero) rfl rfl Tryz.underlying110 vote_zero) rfl ?_
    have hmz := getD_mem ho.there (toE x34.2[k])
    have hsm : SmallV ((getE es (toE x34.2[k])).getD VoteV.zero).abs := by
      rcases List.mem_cons.1 hmz with h | h
      · rw [h]; exact small_zero
      · exact ho.small _ h
    have rvs : RdVs w0 (datV fp vs :: H) (VoteV.zero :: vs) := rd_zero
    have rb := rvs.b _ hmz
    have rc := rvs.c _ hmz
    have re := rvs.e _ hmz
    refine DL_e rfl rfl (Ef_call (copied_c hsm) rfl (fun x48 => ⟨(Subs.st inferInstance), ?_⟩))
    refine DL_pure (fun h48 => ?_)
    refine DL_e rfl rfl (Ef_sliceN (m := [x48.1].length) [.agg x48.1.cells] ([x48.1].flatMap VoteV.list) rfl rfl rfl rfl (by simp [Value.cells, VoteV.size]) rfl rfl (fun a49 c49 => ⟨(Subs.st inferInstance), ?_⟩))
    refine DL_e rfl rfl (Ef_appendS VoteV.list (sv := .slice _ _ _) (xv := .slice _ _ _) (xs := zs) (ys := [x48.1]) VoteV.list_len VoteV.list_one rfl rfl (by simp; omega) rfl rfl (fun a50 c50 => ⟨(Subs.st inferInstance), ?_⟩))
    refine DL_q hns0 rfl (Qt_assign (.slice _ _ _) rfl) rfl ?_
    refine DL_nil ?_
    refine X_block ?_
    refine X_then ?_
    refine T_region ?_
    first
      | refine TL_q (Qt_add rfl rfl (by omega) (by omega)) rfl ?_
      | refine TL_q (Qt_addw rfl rfl) rfl ?_
    refine TL_q (Qt_move (.int .i64 _) rfl) rfl ?_
    refine TL_nil ?_
    refine X_loop _ (by repeat (first | with_reducible exact agree_refl | refine agree_upd rfl ?_ | refine agree_mix rfl ?_ | refine agree_setAll rfl ?_)) (⟨k + 1, a50, c50, zs ++ [x48.1], x48.2 ++ fp2, [x48.1] ++ ds, rfl, rfl, by omega, map_snoc hk hzs h48, fun z hz => (List.mem_append.1 hz).elim (fun h => (hzd z h).imp id (fun h => List.mem_append_right _ h)) (fun h => .inr (List.mem_append_left _ h))⟩) (by show x34.2.length - (k + 1 : Int).toNat < x34.2.length - (k : Int).toNat; omega) (fun w hw => by
            have h1 : St w0 (datV x48.2 [x48.1] :: datV fp2 ds :: row (.slice a50 (zs ++ [x48.1]).length c50) 44 38 ((zs ++ [x48.1]).flatMap VoteV.list) :: row (.slice x34.1.a x34.2.length x34.1.c) 112 2 (x34.2.flatMap encK) :: BkS.H ⟨⟨now, false, sl, some r, ac⟩, r, es, c, acc, fp, vs⟩ p H) w := Subs.st inferInstance w hw
            exact Subs.st (H' := row (.slice a50 (zs ++ [x48.1]).length c50) 44 38 ((zs ++ [x48.1]).flatMap VoteV.list) :: row (.slice x34.1.a x34.2.length x34.1.c) 112 2 (x34.2.flatMap encK) :: datV (x48.2 ++ fp2) ([x48.1] ++ ds) :: BkS.H ⟨⟨now, false, sl, some r, ac⟩, r, es, c, acc, fp, vs⟩ p H) inferInstance w (St.datAdd h1))
  ·
    have p38 := h38
    try simp only [decide_eq_true_eq, decide_eq_false_iff_not, Bool.not_eq_true', Bool.not_eq_false', Option.isNone_iff_eq_none, ne_eq, Decidable.not_not, Int.not_lt, Int.not_le] at p38
    have hzl : zs.length ≤ 2000 := by have := congrArg List.length hzs; simp [regB] at this; omega
    refine T_exit ?_
    refine X_then_exit ?_
    refine X_loop_exit ?_
    refine X_block_exit ?_
    refine X_then ?_
    refine T_seq ?_
    refine T_seq ?_
    refine T_region ?_
    refine TL_q (Qt_move (.pointer _) rfl) rfl ?_
    refine TL_drop (BkS.H ⟨⟨now, false, sl, some r, ac⟩, r, es, c, acc, fp, vs⟩ p (row (.slice a (zs).length c2) 44 38 ((zs).flatMap VoteV.list) :: datV fp2 ds :: H)) ?_
    refine TL_e rfl (Ef_call (accepted_c (y := ⟨⟨now, false, sl, some r, ac⟩, r, es, c, acc, fp, vs⟩) ho) rfl (fun x54 => ?_))
    refine TL_pure (fun h54 => ?_)
    refine TL_q (Qt_move (.tuple _) rfl) rfl ?_
    refine TL_q (Qt_extract rfl) rfl ?_
    refine TL_q (Qt_extract rfl) rfl ?_
    refine TL_e rfl (Ef_allocN (fun b7 => ?_))
    refine TL_n (Ef_storeN rfl rfl (?_))
    refine TL_q (Qt_assign (.bool _) rfl) rfl ?_
    refine TL_nil ?_
    refine X_then ?_
    refine T_seq ?_
    refine T_region ?_
    refine TL_q (Qt_move (.bool _) rfl) rfl ?_
    refine TL_nil ?_
    refine X_then ?_
    refine T_cond rfl (fun h57 => ?_) (fun h57 => ?_)
    ·
      have p57 := h57
      try simp only [decide_eq_true_eq, decide_eq_false_iff_not, Bool.not_eq_true', Bool.not_eq_false', Option.isNone_iff_eq_none, ne_eq, Decidable.not_not, Int.not_lt, Int.not_le] at p57
      refine T_region ?_
      refine TL_q (Qt_move (.slice _ _ _) rfl) rfl ?_
      refine TL_q (Qt_loadN rfl rfl) rfl ?_
      refine TL_e rfl (Ef_sliceN (m := [x54.1].length) [.agg x54.1.cells] ([x54.1].flatMap VoteV.list) rfl rfl rfl rfl (by simp [Value.cells, VoteV.size]) rfl rfl (fun a60 c60 => ?_))
      refine TL_e rfl (Ef_appendS VoteV.list (sv := .slice _ _ _) (xv := .slice _ _ _) (xs := zs) (ys := [x54.1]) VoteV.list_len VoteV.list_one rfl rfl (by simp; omega) rfl rfl (fun a61 c61 => ?_))
      refine TL_q (Qt_assign (.slice _ _ _) rfl) rfl ?_
      refine TL_nil ?_
      refine X_then ?_
      refine T_seq ?_
      refine T_region ?_
      refine TL_q (Qt_move (.slice _ _ _) rfl) rfl ?_
      refine TL_q (Qt_assign (.slice _ _ _) rfl) rfl ?_
      refine TL_nil ?_
      refine X_then ?_
      refine T_ret ?_
      have htk : x34.2.take k = x34.2 := List.take_of_length_le (by omega)
      rw [htk] at hzs
      have ha : (acc.map fun q => q.2.abs).toList = [x54.1.abs] := by
        rw [h54]
        cases acc with
        | none => cases h57
        | some q => rfl
      have hab : AllB ⟨⟨now, false, sl, some r, ac⟩, r, es, c, acc, fp, vs⟩ (zs ++ [x54.1]) ([x54.1] ++ ds) := ⟨⟨x34.2, h34.1, h34.2, by
        show (zs ++ [x54.1]).map VoteV.abs = _ ++ (_ ++ (acc.map fun q => q.2.abs).toList)
        rw [ha]
        simp [hzs]⟩, fun z hz => (List.mem_append.1 hz).elim (fun h => (hzd z h).imp id (fun h => List.mem_append_right _ h)) (fun h => .inr (List.mem_append_left _ h))⟩
      exact X_ret (⟨a61, c61⟩, zs ++ [x54.1], x54.2 ++ fp2, [x54.1] ++ ds) [_] Tryz.results44 ⟨rfl, trivial⟩ rfl (fun w hw => by
        have h1 : St w0 (datV x54.2 [x54.1] :: datV fp2 ds :: row (.slice a61 (zs ++ [x54.1]).length c61) 44 38 ((zs ++ [x54.1]).flatMap VoteV.list) :: BkS.H ⟨⟨now, false, sl, some r, ac⟩, r, es, c, acc, fp, vs⟩ p H) w := Subs.st inferInstance w hw
        exact (Subs.st (H' := row (.slice a61 (zs ++ [x54.1]).length c61) 44 38 ((zs ++ [x54.1]).flatMap VoteV.list) :: datV (x54.2 ++ fp2) ([x54.1] ++ ds) :: BkS.H ⟨⟨now, false, sl, some r, ac⟩, r, es, c, acc, fp, vs⟩ p H) inferInstance w (St.datAdd h1)).addPure hab)
    ·
      have p57 := h57
      try simp only [decide_eq_true_eq, decide_eq_false_iff_not, Bool.not_eq_true', Bool.not_eq_false', Option.isNone_iff_eq_none, ne_eq, Decidable.not_not, Int.not_lt, Int.not_le] at p57
      refine T_skip ?_
      refine X_then ?_
      refine T_seq ?_
      refine T_region ?_
      refine TL_q (Qt_move (.slice _ _ _) rfl) rfl ?_
      refine TL_q (Qt_assign (.slice _ _ _) rfl) rfl ?_
      refine TL_nil ?_
      refine X_then ?_
      refine T_ret ?_
      have htk : x34.2.take k = x34.2 := List.take_of_length_le (by omega)
      rw [htk] at hzs
      have ha : (acc.map fun q => q.2.abs).toList = [] := by
        cases acc with
        | none => rfl
        | some q => cases h57
      have hab : AllB ⟨⟨now, false, sl, some r, ac⟩, r, es, c, acc, fp, vs⟩ (zs) (ds) := ⟨⟨x34.2, h34.1, h34.2, by
        show (zs).map VoteV.abs = _ ++ (_ ++ (acc.map fun q => q.2.abs).toList)
        rw [ha]
        simp [hzs]⟩, hzd⟩
      exact X_ret (⟨a, c2⟩, zs, fp2, ds) [_] Tryz.results44 ⟨rfl, trivial⟩ rfl (fun w hw => (Subs.st (H' := row (.slice a (zs).length c2) 44 38 ((zs).flatMap VoteV.list) :: datV fp2 ds :: BkS.H ⟨⟨now, false, sl, some r, ac⟩, r, es, c, acc, fp, vs⟩ p H) inferInstance w hw).addPure hab)
set_option maxHeartbeats 1000000 in
theorem all_true {w0 : World} {H : List SA} {p r c : Nat} {now : EraV} {sl : Int} {ac : Option Addr} {es : List (Ent EraV VoteV)} {acc : Option (Nat × VoteV)} {fp : List Nat} {vs : List VoteV} (ho : BkS.Ok ⟨⟨now, true, sl, some r, ac⟩, r, es, c, acc, fp, vs⟩) (hin : ∀ e ∈ es, e.k ∈ grid) (hne : es.length ≤ 1000) :
    CT Tryz.prog w0 (BkS.H ⟨⟨now, true, sl, some r, ac⟩, r, es, c, acc, fp, vs⟩ p H) 44 [.pointer (some ⟨p, 0, none⟩)] (α := AC × List VoteV × List Nat × List VoteV) (fun z => .slice z.1.a z.2.1.length z.1.c) (fun z => pu (AllB ⟨⟨now, true, sl, some r, ac⟩, r, es, c, acc, fp, vs⟩ z.2.1 z.2.2.2) :: row (.slice z.1.a (z.2.1).length z.1.c) 44 38 ((z.2.1).flatMap VoteV.list) :: datV z.2.2.1 z.2.2.2 :: BkS.H ⟨⟨now, true, sl, some r, ac⟩, r, es, c, acc, fp, vs⟩ p H) := by
  refine CT_intro Tryz.func44 rfl Tryz.ntmps44 rfl ?_
  refine T_seq ?_
  refine T_region ?_
  refine TL_q (Qt_assign (.slice _ _ _) rfl) rfl ?_
  refine TL_nil ?_
  refine X_then ?_
  refine T_seq ?_
  refine T_seq ?_
  refine T_region ?_
  refine TL_q (Qt_move (.pointer _) rfl) rfl ?_
  refine TL_q (Qt_ptr_nil rfl rfl Tryz.underlying75) rfl ?_
  refine TL_nil ?_
  refine X_then ?_
  refine T_cond_false rfl (by first | rfl | decide) ?_
  refine T_skip ?_
  refine X_then ?_
  refine T_seq ?_
  refine T_region ?_
  refine TL_q (Qt_assign (.slice _ _ _) rfl) rfl ?_
  refine TL_nil ?_
  refine X_then ?_
  refine T_seq ?_
  refine T_seq ?_
  refine T_region ?_
  refine TL_q (Qt_move (.pointer _) rfl) rfl ?_
  refine TL_q (Qt_nilCheck rfl) rfl ?_
  refine TL_q (Qt_fieldAddr 2 rfl rfl) rfl ?_
  refine TL_q (Qt_load1 rfl) rfl ?_
  refine TL_nil ?_
  refine X_then ?_
  refine T_cond_true rfl (by first | rfl | decide) ?_
  refine T_draw (BkS.H ⟨⟨now, true, sl, some r, ac⟩, r, es, c, acc, fp, vs⟩ p H) [(0, true), (1, true), (2, true), (3, true), (4, true), (5, true), (6, true), (7, true), (8, true), (9, true), (10, true), (11, true), (12, false), (13, false), (14, true)] (by kernel_rfl) (by kernel_rfl) rfl (by kernel_rfl) (Subs.st inferInstance) (fun hns0 => ?_)
  refine DL_q hns0 rfl (Qt_move (.slice _ _ _) rfl) rfl ?_
  refine DL_q hns0 rfl (Qt_move (.pointer _) rfl) rfl ?_
  refine DL_q hns0 rfl (Qt_nilCheck rfl) rfl ?_
  refine DL_q hns0 rfl (Qt_fieldAddr 0 rfl rfl) rfl ?_
  refine DL_q hns0 rfl (Qt_fieldAddr 0 rfl rfl) rfl ?_
  refine DL_q hns0 rfl (Qt_load1 rfl) rfl ?_
  refine DL_q hns0 rfl (Qt_move (.pointer _) rfl) rfl ?_
  refine DL_q hns0 rfl (Qt_nilCheck rfl) rfl ?_
  refine DL_q hns0 rfl (Qt_fieldAddr 0 rfl rfl) rfl ?_
  refine DL_q hns0 rfl (Qt_fieldAddr 1 rfl rfl) rfl ?_
  refine DL_q hns0 rfl (Qt_load1 rfl) rfl ?_
  refine DL_q hns0 rfl (Qt_build [(0, (.int .i64 _)), (1, (.int .i64 _)), (2, (.int .i64 _))] rfl (by kernel_rfl)) rfl ?_
  refine DL_e rfl rfl (Ef_sliceN (m := [(regV (now.view, now.reg))].length) [.agg (regV (now.view, now.reg)).cells] ([(regV (now.view, now.reg))].flatMap VoteV.list) rfl rfl rfl rfl (by simp [Value.cells, VoteV.size]) rfl rfl (fun a27 c27 => ⟨(Subs.st inferInstance), ?_⟩))
  refine DL_e rfl rfl (Ef_appendS VoteV.list (sv := .slice _ _ _) (xv := .slice _ _ _) (xs := []) (ys := [(regV (now.view, now.reg))]) VoteV.list_len VoteV.list_one rfl rfl (by simp) rfl rfl (fun a28 c28 => ⟨(Subs.st inferInstance), ?_⟩))
  simp only [List.nil_append]
  refine DL_q hns0 rfl (Qt_assign (.slice _ _ _) rfl) rfl ?_
  refine DL_nil ?_
  refine X_then ?_
  refine T_seq ?_
  refine T_region ?_
  refine TL_q (Qt_move (.pointer _) rfl) rfl ?_
  refine TL_q (Qt_nilCheck rfl) rfl ?_
  refine TL_q (Qt_fieldAddr 4 rfl rfl) rfl ?_
  refine TL_q (Qt_load1 rfl) rfl ?_
  refine TL_e rfl (Ef_call (keysF_c (r := r)) rfl (fun x33 => ?_))
  refine TL_e rfl (Ef_call (sortedK_c (b := x33) (r := r) (c := c) (es := es) ho.good hin (by omega)) rfl (fun x34 => ?_))
  refine TL_pure (fun h34 => ?_)
  have hkl : x34.2.length ≤ 1000 := by have := h34.1.length_eq; simp at this; omega
  refine TL_q (Qt_assign (.slice _ _ _) rfl) rfl ?_
  refine TL_nil ?_
  refine X_then ?_
  refine T_seq ?_
  refine T_seq ?_
  refine T_region ?_
  refine TL_q (Qt_move (.slice _ _ _) rfl) rfl ?_
  refine TL_q (Qt_len_slice rfl Tryz.underlying155) rfl ?_
  refine TL_q (Qt_move (.int .i64 _) rfl) rfl ?_
  refine TL_nil ?_
  refine X_then ?_
  refine T_block ?_
  refine T_loop [3, 6, 37, 38, 39, 40, 41, 42, 43, 44, 45, 46, 47, 48, 49, 50, 51] [37, 3] (fun us H' => ∃ (k : Nat) (a : Option Addr) (c2 : Nat) (zs : List VoteV) (fp2 : List Nat) (ds : List VoteV), us = [.int .i64 (k : Int), .slice a zs.length c2] ∧ row (.slice a (zs).length c2) 44 38 ((zs).flatMap VoteV.list) :: row (.slice x34.1.a x34.2.length x34.1.c) 112 2 (x34.2.flatMap encK) :: datV fp2 ds :: BkS.H ⟨⟨now, true, sl, some r, ac⟩, r, es, c, acc, fp, vs⟩ p H = H' ∧ k ≤ x34.2.length ∧ (zs.map VoteV.abs = (regB true now).map VoteV.abs ++ (x34.2.take k).map (oneD es)) ∧ (∀ z ∈ zs, z = (regV (now.view, now.reg)) ∨ z ∈ ds)) (fun us => match us with | .int _ i :: _ => x34.2.length - i.toNat | _ => 0) ⟨0, a28, c28, [(regV (now.view, now.reg))], [], [], rfl, rfl, by omega, by simp [regB], by simp⟩ (fun w hw => by
        have h0 : St w0 (row (.slice a28 ([(regV (now.view, now.reg))]).length c28) 44 38 (([(regV (now.view, now.reg))]).flatMap VoteV.list) :: row (.slice x34.1.a x34.2.length x34.1.c) 112 2 (x34.2.flatMap encK) :: BkS.H ⟨⟨now, true, sl, some r, ac⟩, r, es, c, acc, fp, vs⟩ p H) w := Subs.st inferInstance w hw
        exact Subs.st (H' := row (.slice a28 ([(regV (now.view, now.reg))]).length c28) 44 38 (([(regV (now.view, now.reg))]).flatMap VoteV.list) :: row (.slice x34.1.a x34.2.length x34.1.c) 112 2 (x34.2.flatMap encK) :: datV [] [] :: BkS.H ⟨⟨now, true, sl, some r, ac⟩, r, es, c, acc, fp, vs⟩ p H) inferInstance w (St.datNil h0)) ?_
  rintro τ0 _ _  ⟨k, a, c2, zs, fp2, ds, rfl, rfl, hk0, hzs, hzd⟩ _
  refine T_seq ?_
  refine T_region ?_
  refine TL_q (Qt_lss rfl rfl) rfl ?_
  refine TL_nil ?_
  refine X_then ?_
  refine T_seq ?_
  refine T_cond rfl (fun h38 => ?_) (fun h38 => ?_)
  ·
    have p38 := h38
    try simp only [decide_eq_true_eq, decide_eq_false_iff_not, Bool.not_eq_true', Bool.not_eq_false', Option.isNone_iff_eq_none, ne_eq, Decidable.not_not, Int.not_lt, Int.not_le] at p38
    have hk : k < x34.2.length := by omega
    have hzl : zs.length ≤ 1 + k := by have := congrArg List.length hzs; simp [regB] at this; omega
    refine T_skip ?_
    refine X_then ?_
    refine T_seq ?_
    refine T_block ?_
    refine T_seq ?_
    refine T_region ?_
    refine TL_q (Qt_indexN rfl rfl (by omega) (by omega)) rfl ?_
    refine TL_q (Qt_loadKey (k := k) rfl hk) rfl ?_
    refine TL_e rfl (Ef_allocN (fun b6 => ?_))
    refine TL_n (Ef_storeN rfl rfl (?_))
    refine TL_nil ?_
    refine X_then ?_
    refine T_draw (blk b6 (.cells (toE x34.2[k]).cells 112 (0, 0)) :: BkS.H ⟨⟨now, true, sl, some r, ac⟩, r, es, c, acc, fp, vs⟩ p H) [(0, true), (1, true), (2, true), (3, true), (4, true), (5, true), (6, true), (7, false), (8, false), (9, false), (10, true)] (by kernel_rfl) (by kernel_rfl) rfl (by kernel_rfl) (Subs.st inferInstance) (fun hns1 => ?_)
    refine DL_q hns1 rfl (Qt_move (.slice _ _ _) rfl) rfl ?_
    refine DL_q hns1 rfl (Qt_move (.pointer _) rfl) rfl ?_
    refine DL_q hns1 rfl (Qt_nilCheck rfl) rfl ?_
    refine DL_q hns1 rfl (Qt_fieldAddr 4 rfl rfl) rfl ?_
    refine DL_q hns1 rfl (Qt_load1 rfl) rfl ?_
    refine DL_q hns1 rfl (Qt_loadN rfl rfl) rfl ?_
    refine DL_q hns1 rfl (Qt_lookup1 (key := (toE x34.2[k])) (VoteV.zero) rfl rfl Tryz.underlying110 vote_zero) rfl ?_
    have hmz := getD_mem ho.there (toE x34.2[k])
    have hsm : SmallV ((getE es (toE x34.2[k])).getD VoteV.zero).abs := by
      rcases List.mem_cons.1 hmz with h | h
      · rw [h]; exact small_zero
      · exact ho.small _ h
    have rvs : RdVs w0 (datV fp vs :: H) (VoteV.zero :: vs) := rd_zero
    have rb := rvs.b _ hmz
    have rc := rvs.c _ hmz
    have re := rvs.e _ hmz
    refine DL_e rfl rfl (Ef_call (copied_c hsm) rfl (fun x48 => ⟨(Subs.st inferInstance), ?_⟩))
    refine DL_pure (fun h48 => ?_)
    refine DL_e rfl rfl (Ef_sliceN (m := [x48.1].length) [.agg x48.1.cells] ([x48.1].flatMap VoteV.list) rfl rfl rfl rfl (by simp [Value.cells, VoteV.size]) rfl rfl (fun a49 c49 => ⟨(Subs.st inferInstance), ?_⟩))
    refine DL_e rfl rfl (Ef_appendS VoteV.list (sv := .slice _ _ _) (xv := .slice _ _ _) (xs := zs) (ys := [x48.1]) VoteV.list_len VoteV.list_one rfl rfl (by simp; omega) rfl rfl (fun a50 c50 => ⟨(Subs.st inferInstance), ?_⟩))
    refine DL_q hns1 rfl (Qt_assign (.slice _ _ _) rfl) rfl ?_
    refine DL_nil ?_
    refine X_block ?_
    refine X_then ?_
    refine T_region ?_
    first
      | refine TL_q (Qt_add rfl rfl (by omega) (by omega)) rfl ?_
      | refine TL_q (Qt_addw rfl rfl) rfl ?_
    refine TL_q (Qt_move (.int .i64 _) rfl) rfl ?_
    refine TL_nil ?_
    refine X_loop _ (by repeat (first | with_reducible exact agree_refl | refine agree_upd rfl ?_ | refine agree_mix rfl ?_ | refine agree_setAll rfl ?_)) (⟨k + 1, a50, c50, zs ++ [x48.1], x48.2 ++ fp2, [x48.1] ++ ds, rfl, rfl, by omega, map_snoc hk hzs h48, fun z hz => (List.mem_append.1 hz).elim (fun h => (hzd z h).imp id (fun h => List.mem_append_right _ h)) (fun h => .inr (List.mem_append_left _ h))⟩) (by show x34.2.length - (k + 1 : Int).toNat < x34.2.length - (k : Int).toNat; omega) (fun w hw => by
            have h1 : St w0 (datV x48.2 [x48.1] :: datV fp2 ds :: row (.slice a50 (zs ++ [x48.1]).length c50) 44 38 ((zs ++ [x48.1]).flatMap VoteV.list) :: row (.slice x34.1.a x34.2.length x34.1.c) 112 2 (x34.2.flatMap encK) :: BkS.H ⟨⟨now, true, sl, some r, ac⟩, r, es, c, acc, fp, vs⟩ p H) w := Subs.st inferInstance w hw
            exact Subs.st (H' := row (.slice a50 (zs ++ [x48.1]).length c50) 44 38 ((zs ++ [x48.1]).flatMap VoteV.list) :: row (.slice x34.1.a x34.2.length x34.1.c) 112 2 (x34.2.flatMap encK) :: datV (x48.2 ++ fp2) ([x48.1] ++ ds) :: BkS.H ⟨⟨now, true, sl, some r, ac⟩, r, es, c, acc, fp, vs⟩ p H) inferInstance w (St.datAdd h1))
  ·
    have p38 := h38
    try simp only [decide_eq_true_eq, decide_eq_false_iff_not, Bool.not_eq_true', Bool.not_eq_false', Option.isNone_iff_eq_none, ne_eq, Decidable.not_not, Int.not_lt, Int.not_le] at p38
    have hzl : zs.length ≤ 2000 := by have := congrArg List.length hzs; simp [regB] at this; omega
    refine T_exit ?_
    refine X_then_exit ?_
    refine X_loop_exit ?_
    refine X_block_exit ?_
    refine X_then ?_
    refine T_seq ?_
    refine T_seq ?_
    refine T_region ?_
    refine TL_q (Qt_move (.pointer _) rfl) rfl ?_
    refine TL_drop (BkS.H ⟨⟨now, true, sl, some r, ac⟩, r, es, c, acc, fp, vs⟩ p (row (.slice a (zs).length c2) 44 38 ((zs).flatMap VoteV.list) :: datV fp2 ds :: H)) ?_
    refine TL_e rfl (Ef_call (accepted_c (y := ⟨⟨now, true, sl, some r, ac⟩, r, es, c, acc, fp, vs⟩) ho) rfl (fun x54 => ?_))
    refine TL_pure (fun h54 => ?_)
    refine TL_q (Qt_move (.tuple _) rfl) rfl ?_
    refine TL_q (Qt_extract rfl) rfl ?_
    refine TL_q (Qt_extract rfl) rfl ?_
    refine TL_e rfl (Ef_allocN (fun b7 => ?_))
    refine TL_n (Ef_storeN rfl rfl (?_))
    refine TL_q (Qt_assign (.bool _) rfl) rfl ?_
    refine TL_nil ?_
    refine X_then ?_
    refine T_seq ?_
    refine T_region ?_
    refine TL_q (Qt_move (.bool _) rfl) rfl ?_
    refine TL_nil ?_
    refine X_then ?_
    refine T_cond rfl (fun h57 => ?_) (fun h57 => ?_)
    ·
      have p57 := h57
      try simp only [decide_eq_true_eq, decide_eq_false_iff_not, Bool.not_eq_true', Bool.not_eq_false', Option.isNone_iff_eq_none, ne_eq, Decidable.not_not, Int.not_lt, Int.not_le] at p57
      refine T_region ?_
      refine TL_q (Qt_move (.slice _ _ _) rfl) rfl ?_
      refine TL_q (Qt_loadN rfl rfl) rfl ?_
      refine TL_e rfl (Ef_sliceN (m := [x54.1].length) [.agg x54.1.cells] ([x54.1].flatMap VoteV.list) rfl rfl rfl rfl (by simp [Value.cells, VoteV.size]) rfl rfl (fun a60 c60 => ?_))
      refine TL_e rfl (Ef_appendS VoteV.list (sv := .slice _ _ _) (xv := .slice _ _ _) (xs := zs) (ys := [x54.1]) VoteV.list_len VoteV.list_one rfl rfl (by simp; omega) rfl rfl (fun a61 c61 => ?_))
      refine TL_q (Qt_assign (.slice _ _ _) rfl) rfl ?_
      refine TL_nil ?_
      refine X_then ?_
      refine T_seq ?_
      refine T_region ?_
      refine TL_q (Qt_move (.slice _ _ _) rfl) rfl ?_
      refine TL_q (Qt_assign (.slice _ _ _) rfl) rfl ?_
      refine TL_nil ?_
      refine X_then ?_
      refine T_ret ?_
      have htk : x34.2.take k = x34.2 := List.take_of_length_le (by omega)
      rw [htk] at hzs
      have ha : (acc.map fun q => q.2.abs).toList = [x54.1.abs] := by
        rw [h54]
        cases acc with
        | none => cases h57
        | some q => rfl
      have hab : AllB ⟨⟨now, true, sl, some r, ac⟩, r, es, c, acc, fp, vs⟩ (zs ++ [x54.1]) ([x54.1] ++ ds) := ⟨⟨x34.2, h34.1, h34.2, by
        show (zs ++ [x54.1]).map VoteV.abs = _ ++ (_ ++ (acc.map fun q => q.2.abs).toList)
        rw [ha]
        simp [hzs]⟩, fun z hz => (List.mem_append.1 hz).elim (fun h => (hzd z h).imp id (fun h => List.mem_append_right _ h)) (fun h => .inr (List.mem_append_left _ h))⟩
      exact X_ret (⟨a61, c61⟩, zs ++ [x54.1], x54.2 ++ fp2, [x54.1] ++ ds) [_] Tryz.results44 ⟨rfl, trivial⟩ rfl (fun w hw => by
        have h1 : St w0 (datV x54.2 [x54.1] :: datV fp2 ds :: row (.slice a61 (zs ++ [x54.1]).length c61) 44 38 ((zs ++ [x54.1]).flatMap VoteV.list) :: BkS.H ⟨⟨now, true, sl, some r, ac⟩, r, es, c, acc, fp, vs⟩ p H) w := Subs.st inferInstance w hw
        exact (Subs.st (H' := row (.slice a61 (zs ++ [x54.1]).length c61) 44 38 ((zs ++ [x54.1]).flatMap VoteV.list) :: datV (x54.2 ++ fp2) ([x54.1] ++ ds) :: BkS.H ⟨⟨now, true, sl, some r, ac⟩, r, es, c, acc, fp, vs⟩ p H) inferInstance w (St.datAdd h1)).addPure hab)
    ·
      have p57 := h57
      try simp only [decide_eq_true_eq, decide_eq_false_iff_not, Bool.not_eq_true', Bool.not_eq_false', Option.isNone_iff_eq_none, ne_eq, Decidable.not_not, Int.not_lt, Int.not_le] at p57
      refine T_skip ?_
      refine X_then ?_
      refine T_seq ?_
      refine T_region ?_
      refine TL_q (Qt_move (.slice _ _ _) rfl) rfl ?_
      refine TL_q (Qt_assign (.slice _ _ _) rfl) rfl ?_
      refine TL_nil ?_
      refine X_then ?_
      refine T_ret ?_
      have htk : x34.2.take k = x34.2 := List.take_of_length_le (by omega)
      rw [htk] at hzs
      have ha : (acc.map fun q => q.2.abs).toList = [] := by
        cases acc with
        | none => rfl
        | some q => cases h57
      have hab : AllB ⟨⟨now, true, sl, some r, ac⟩, r, es, c, acc, fp, vs⟩ (zs) (ds) := ⟨⟨x34.2, h34.1, h34.2, by
        show (zs).map VoteV.abs = _ ++ (_ ++ (acc.map fun q => q.2.abs).toList)
        rw [ha]
        simp [hzs]⟩, hzd⟩
      exact X_ret (⟨a, c2⟩, zs, fp2, ds) [_] Tryz.results44 ⟨rfl, trivial⟩ rfl (fun w hw => (Subs.st (H' := row (.slice a (zs).length c2) 44 38 ((zs).flatMap VoteV.list) :: datV fp2 ds :: BkS.H ⟨⟨now, true, sl, some r, ac⟩, r, es, c, acc, fp, vs⟩ p H) inferInstance w hw).addPure hab)
theorem all_c {w0 : World} {H : List SA} {p : Nat} {y : BkS} (ho : y.Ok) (hin : ∀ e ∈ y.es, e.k ∈ grid) (hne : y.es.length ≤ 1000) :
    CT Tryz.prog w0 (y.H p H) 44 [.pointer (some ⟨p, 0, none⟩)] (α := AC × List VoteV × List Nat × List VoteV) (fun z => .slice z.1.a z.2.1.length z.1.c) (fun z => pu (AllB y z.2.1 z.2.2.2) :: row (.slice z.1.a (z.2.1).length z.1.c) 44 38 ((z.2.1).flatMap VoteV.list) :: datV z.2.2.1 z.2.2.2 :: y.H p H) := by
  obtain ⟨⟨now, en, sl, wr, ac⟩, r, es, c, acc, fp, vs⟩ := y
  obtain rfl : wr = some r := ho.wrote
  cases en with
  | false => exact all_false ho hin hne
  | true => exact all_true ho hin hne
end
section
open Go.RowKit Go.Sx
set_option maxRecDepth 100000
set_option linter.unusedSimpArgs false
set_option linter.unusedVariables false
theorem mem_keys {es : List (Ent EraV VoteV)} {a : EraV} : a ∈ es.map (·.k) ↔ (getE es a).isSome = true := by
 simp only [getE, Option.isSome_map, List.find?_isSome, List.mem_map, decide_eq_true_eq]
 constructor
 · rintro ⟨e, he, rfl⟩; exact ⟨e, he, rfl⟩
 · rintro ⟨e, he, h⟩; exact ⟨e, he, h.symm⟩
theorem nodup_lenK {α : Type} [DecidableEq α] : ∀ (l m : List α), l.Nodup → (∀ x ∈ l, x ∈ m) → l.length ≤ m.length
 | [], _, _, _ => Nat.zero_le _
 | x :: l, m, hn, h => by
  obtain ⟨h1, h2⟩ := List.nodup_cons.1 hn
  have hx := h x (by simp)
  have := nodup_lenK l (m.erase x) h2 (fun y hy => (List.mem_erase_of_ne (by rintro rfl; exact h1 hy)).2 (h y (by simp [hy])))
  rw [List.length_erase_of_mem hx] at this
  have := List.length_pos_of_mem hx
  simp only [List.length_cons]
  omega
theorem wrote_iff {y : BkS} {l : List VoteV} (h : SameD y.abs l) (a : EraV) : (getE y.es a).isSome = (wroteL l a).isSome := by
 have := h.wrote a
 rw [BkS.get] at this
 exact map_some this
theorem keys_in {y : BkS} {l : List VoteV} (h : SameD y.abs l) (hc : Came l) : ∀ e ∈ y.es, e.k ∈ grid := fun e he => by
 refine came_grid hc ?_
 rw [← wrote_iff h]
 exact mem_keys.1 (List.mem_map.2 ⟨e, he, rfl⟩)
theorem keys_len {y : BkS} {l : List VoteV} (ho : y.Ok) (h : SameD y.abs l) : y.es.length ≤ l.length := by
 have := nodup_lenK (y.es.map (·.k)) (l.map fun v => (⟨v.view, v.reg⟩ : EraV)) ho.good.keys (fun a ha => by
  have h1 := mem_keys.1 ha
  rw [wrote_iff h] at h1
  obtain ⟨v, hv⟩ := Option.isSome_iff_exists.1 h1
  obtain ⟨hm, -, -, h4, h5⟩ := wroteL_spec hv
  exact List.mem_map.2 ⟨v, hm, by rw [h4, h5]⟩)
 simpa using this
/-- What a book tells is what the document says. -/
theorem all_told {y : BkS} {l zs ds : List VoteV} (ho : y.Ok) (h : SameD y.abs l) (hc : Came l) (ha : AllB y zs ds) : zs.map VoteV.abs = (allL l).map VoteV.abs := by
 obtain ⟨ks, hp, hs, hz⟩ := ha.keys
 rw [hz, allL, List.map_append, List.map_append]
 have hent : y.k.entered = decide (0 ≤ (regL l).1) := h.ent
 have e1 : regB y.k.entered y.k.now = regP l := by
  unfold regB regP
  by_cases h0 : 0 ≤ (regL l).1
  · have hn := h.now (hent.trans (decide_eq_true h0))
    have hn : y.k.now = ⟨(regL l).1, (regL l).2⟩ := hn
    rw [if_pos h0, hent, decide_eq_true h0, if_pos rfl, hn]
  · rw [if_neg h0, hent, decide_eq_false h0, if_neg (by decide)]
 have e2 : ks.map (oneD y.es) = (grid.filterMap (wroteL l)).map VoteV.abs := by
  rw [← keys_votes hc (sortedK_mem hp hs ho.good.keys) (fun a => by rw [hp.mem_iff, mem_keys, wrote_iff h]), List.map_map, List.map_map]
  refine List.map_congr_left fun x _ => ?_
  have := h.wrote (toE x)
  rw [BkS.get] at this
  exact map_getD this
 have e3 : (y.acc.map fun q => q.2.abs).toList = (accL l).toList.map VoteV.abs := by
  have : (y.acc.map fun q => q.2.abs) = (accL l).map VoteV.abs := h.acc
  rw [this]
  cases accL l <;> rfl
 rw [e1, e2, e3]
end
end Go.Proofs.YtgeknnclmhfjlaaGreatDoor
