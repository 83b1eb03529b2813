/- Walks: packages ots and keys, what sha puts together. -/
import Derived.Test.YtnijomppbgdmnaaGreatSgP
import Derived.Test.YtnijomppbgdmnaaGreatKcRP
import Derived.Test.YtnijomppbgdmnaaGreatSesRP
import Derived.Test.YtnijomppbgdmnaaGreatSkP
set_option linter.unusedSimpArgs false
set_option linter.unusedVariables false
namespace Go.Proofs.YtnijomppbgdmnaaGreat
open Go.RowKit Go.Sx
set_option maxRecDepth 100000
set_option maxHeartbeats 1000000
theorem flat_take {α : Type} (f : α → List Value) (m : Nat) (hf : ∀ x, (f x).length = m) : ∀ (l : List α) (i : Nat), (l.take i).flatMap f = (l.flatMap f).take (i * m)
 | [], i => by simp
 | x :: l, 0 => by simp
 | x :: l, i + 1 => by
  rw [List.take_succ_cons, List.flatMap_cons, List.flatMap_cons, flat_take f m hf l i, List.take_append, Nat.add_mul, Nat.one_mul, List.take_of_length_le (l := f x) (by rw [hf]; omega), hf, Nat.add_sub_cancel]
theorem flat_drop {α : Type} (f : α → List Value) (m : Nat) (hf : ∀ x, (f x).length = m) : ∀ (l : List α) (i : Nat), (l.drop i).flatMap f = (l.flatMap f).drop (i * m)
 | [], i => by simp
 | x :: l, 0 => by simp
 | x :: l, i + 1 => by
  rw [List.drop_succ_cons, List.flatMap_cons, flat_drop f m hf l i, List.drop_append, Nat.add_mul, Nat.one_mul, List.drop_of_length_le (l := f x) (by rw [hf]; omega), hf, Nat.add_sub_cancel, List.nil_append]
theorem flat_set {α : Type} {n : Nat} (f : α → List Value) (m : Nat) (hf : ∀ x, (f x).length = m) (v : Vector α n) (i : Nat) (hi : i < n) (u : α) : flatV f (v.set i u) = (flatV f v).take (i * m) ++ (f u ++ (flatV f v).drop ((i + 1) * m)) := by
 unfold flatV
 rw [Vector.toList_set, List.set_eq_take_append_cons_drop, if_pos (by simpa using hi), List.flatMap_append, List.flatMap_cons, flat_take f m hf, flat_drop f m hf]
theorem flat_split {α : Type} {n : Nat} (f : α → List Value) (m : Nat) (hf : ∀ x, (f x).length = m) (v : Vector α n) (i : Nat) (hi : i < n) : flatV f v = (flatV f v).take (i * m) ++ (f v[i] ++ (flatV f v).drop ((i + 1) * m)) := by
 rw [← flat_set f m hf v i hi v[i], Vector.set_getElem_self]
theorem flat_pre {α : Type} {n : Nat} (f : α → List Value) (m : Nat) (hf : ∀ x, (f x).length = m) (v : Vector α n) (i : Nat) (hi : i < n) : ((flatV f v).take (i * m)).length = i * m := by
 rw [List.length_take, flatV_length f m hf, Nat.min_eq_left (Nat.mul_le_mul_right m (Nat.le_of_lt hi))]
theorem put_elem {α : Type} {n : Nat} (f : α → List Value) (m : Nat) (hf : ∀ x, (f x).length = m) (v : Vector α n) (i : Nat) (hi : i < n) (u : α) : Put (flatV f v).toArray (i * m) (.agg (f u).toArray) (flatV f (v.set i u)).toArray := by
 have := Put.mid ((flatV f v).take (i * m)) (f v[i]) ((flatV f v).drop ((i + 1) * m)) (cs := (flatV f v).toArray) (o := i * m) (n := m) (v := .agg (f u).toArray) (congrArg List.toArray (flat_split f m hf v i hi)) (flat_pre f m hf v i hi) (hf _) (by simp [Value.cells, hf])
 rw [flat_set f m hf v i hi u]
 simpa [Value.cells] using this
theorem Qt_slice_arrH {P : Program} {w0 : World} {σ : Env} {H : List SA} {d : Option Nat} {ty : TypeId} {pos : String} {aft : Array Edge} {g : Option (Nat × Bool)} {x hi : Operand} {t e n m b o : Nat} {i : TypeInfo} {k : IntKind} (hx : ev σ x = .pointer (some ⟨b, o, none⟩)) (hh : ev σ hi = .int k (m : Int)) (hu : P.underlying t = some (.array n e)) (hi' : P.info? e = some i) (hn : Nat.blt 0 n = true) (hm : m ≤ n) :
 Qt P w0 H σ ⟨d, .slice t x none (some hi) none, ty, pos, aft, g⟩ (.slice (some ⟨b, o, none⟩) m n) := fun w _ => by
 have h0 : n ≠ 0 := by simp only [Nat.blt_eq] at hn; omega
 have h1 : ¬ ((m : Int) < 0) := by omega
 have h2 : ¬ ((n : Int) < (m : Int)) := by omega
 simp only [execOp, hx, hh, Option.map_none, Option.map_some, Instr.sliceAt, Sem.run_bind, run_underlying hu, Result.andThen_ok, Instr.sureAddr, Sem.run_pure, Instr.sliceBounds, Instr.sliceBound, asIntOf, run_sizeOf_of hi', h0, if_false, Nat.zero_mul, Nat.sub_zero]
 simp [Addr.add, asIntOf, h1, h2, hm]
theorem RdB.hashPre {w0 : World} {H : List SA} {b n m : Nat} {T : TypeId} {fz : Nat × Nat} (x : Vector UInt8 n) (hm : Mem w0 H b (.cells (hlist x).toArray T fz)) (hmn : m ≤ n) (hn : n ≤ 1000) : RdB w0 H (.slice (some ⟨b, 0, none⟩) (x.toList.take m).length n) (x.toList.take m) :=
 ⟨fun w hw => ⟨_, _, _, rfl, by simp [bytesV], by simp; omega, by unfold maxLen; omega, fun _ => ⟨b, 0, rfl, fun j u hj => by
  rw [cell_of_blk (hm.get w hw)]
  have hj2 : (bytesV (x.toList.take m))[j]? = some u := hj
  rw [Nat.zero_add]
  unfold bytesV at hj2
  rw [List.map_take, List.getElem?_take] at hj2
  split at hj2
  · simpa [hlist, bytesV] using hj2
  · cases hj2⟩⟩⟩
/-- A text's piece. -/
def cutV (l : List UInt8) : Vector UInt8 16 := Vector.ofFn fun i => (sha l)[i.val]
theorem cutV_list (l : List UInt8) : (cutV l).toList = (sha l).toList.take 16 := by
 apply List.ext_getElem
 · simp
 · intro i h1 h2; simp [cutV, Vector.getElem_ofFn]
def stepV (p : Vector UInt8 16) (j s : Int) : Vector UInt8 16 := cutV (p.toList ++ [u8Of (IntKind.u8.wrap j), u8Of (IntKind.u8.wrap s)])
def walkV (p : Vector UInt8 16) (j : Int) (fr : Nat) : Nat → Vector UInt8 16
 | 0 => p
 | n + 1 => stepV (walkV p j fr n) j ((fr + n : Nat) : Int)
theorem walkV_zero (p : Vector UInt8 16) (j : Int) (fr : Nat) : walkV p j fr 0 = p := rfl
theorem walkV_succ (p : Vector UInt8 16) (j : Int) (fr n : Nat) : stepV (walkV p j fr n) j ((fr + n : Nat) : Int) = walkV p j fr (n + 1) := rfl
abbrev intL (n : Int) : List Value := [.int .i64 n]
theorem intL_len (n : Int) : (intL n).length = 1 := rfl
theorem intL_one (n : Int) : (intL n).all Value.oneCell' = true := rfl
instance ji0 {v : Vector Int 35} : Cells (flatV intL v).toArray 35 := Cells.list (flatV_length _ 1 intL_len v) (flatV_one _ intL_one v)
instance ji1 {v : Vector Int 35} : SubAt (flatV intL v).toArray 0 35 (flatV intL v).toArray := ⟨by have h := flatV_length _ 1 intL_len v; apply Array.ext <;> simp [h]⟩
instance ji2 {v u : Vector Int 35} : Put (flatV intL v).toArray 0 (.agg (flatV intL u).toArray) (flatV intL u).toArray := ⟨by have := put_mid [] (flatV intL v) [] (v := .agg (flatV intL u).toArray) (o := 0) (n := 35) rfl (flatV_length _ 1 intL_len v) (by simp [Value.cells, flatV_length _ 1 intL_len]); simpa [Value.cells] using this, by simp [Value.cells, flatV_length _ 1 intL_len]⟩
theorem intV_get {n : Nat} (v : Vector Int n) (i : Nat) (hi : i < n) : (flatV intL v).toArray[i]? = some (.int .i64 v[i]) := by
 have h := flatV_slice intL 1 intL_len v i hi
 rw [Nat.mul_one] at h
 have h2 := congrArg (·[0]?) h
 simpa [List.getElem?_take, List.getElem?_drop] using h2
theorem intV_put {n : Nat} (v : Vector Int n) (i : Nat) (hi : i < n) (u : Int) : Put (flatV intL v).toArray i (.int .i64 u) (flatV intL (v.set i u)).toArray := by
 have h := put_elem intL 1 intL_len v i hi u
 rw [Nat.mul_one] at h
 exact ⟨h.ok, h.room⟩
theorem zero35 : (#[.int .i64 0, .int .i64 0, .int .i64 0, .int .i64 0, .int .i64 0, .int .i64 0, .int .i64 0, .int .i64 0, .int .i64 0, .int .i64 0, .int .i64 0, .int .i64 0, .int .i64 0, .int .i64 0, .int .i64 0, .int .i64 0, .int .i64 0, .int .i64 0, .int .i64 0, .int .i64 0, .int .i64 0, .int .i64 0, .int .i64 0, .int .i64 0, .int .i64 0, .int .i64 0, .int .i64 0, .int .i64 0, .int .i64 0, .int .i64 0, .int .i64 0, .int .i64 0, .int .i64 0, .int .i64 0, .int .i64 0] : Array Value) = (flatV intL (Vector.replicate 35 (0 : Int))).toArray := by kernel_rfl
theorem u8_two (j s : Int) : (([.int .u8 (IntKind.u8.wrap j), .int .u8 (IntKind.u8.wrap s)] : List Value).flatMap fun v => v.cells.toList) = bytesV [u8Of (IntKind.u8.wrap j), u8Of (IntKind.u8.wrap s)] := by
 show [Value.int .u8 (IntKind.u8.wrap j), Value.int .u8 (IntKind.u8.wrap s)] = [byteV (u8Of (IntKind.u8.wrap j)), byteV (u8Of (IntKind.u8.wrap s))]
 rw [byteV_u8Of (wrap_u8_range j).1 (wrap_u8_range j).2, byteV_u8Of (wrap_u8_range s).1 (wrap_u8_range s).2]
attribute [local irreducible] sha cutV stepV walkV putFixed
theorem cut_c {w0 : World} {H : List SA} {a : Option Addr} {l : List UInt8} {c : Nat} [hr : RdB w0 H (.slice a l.length c) l] (hl : l.length ≤ 4294967000) :
 CT Tryz.prog w0 (H) 194 [.slice a l.length c] (α := Unit) (fun _ => .agg (hlist (cutV l)).toArray) (fun _ => H) := by
 refine CT_intro Tryz.func194 rfl Tryz.ntmps194 rfl (T2 (ze rfl (Ef_allocN (fun b2 => ?_))))
 refine T4 (Qms rfl rfl (ze rfl (zc (sum_c hl) rfl (fun x5 => ?_))))
 refine ze rfl (Ef_allocN (fun b3 => ?_))
 refine zN (zs rfl rfl (T4 (zy (Qt_val (Qt_slice_arrH (m := 16) rfl rfl Tryz.underlying32 rfl rfl (by decide)) (show Value.slice (some ⟨b3, 0, none⟩) 16 32 = .slice (some ⟨b3, 0, none⟩) ((sha l).toList.take 16).length 32 from by simp)) (zy (Qt_arrayAt (hr := RdB.hashPre (sha l) inferInstance (by decide) (by decide)) rfl Tryz.underlying291 (by simp) (by decide)) (zy (Qt_loadRN (hr := RdC.bytes (h := RdB.hashPre (sha l) inferInstance (by decide) (by decide))) 1 (hlist (cutV l)) rfl (by rw [List.drop_zero]; unfold hlist; rw [cutV_list]; exact List.take_of_length_le (by simp)) (by simp) (by decide)) (zN (zs rfl rfl (TX (zQ ?_)))))))))
 exact zX () [_] Tryz.results194 ⟨⟨_, rfl, res_cellN rfl⟩, trivial⟩ rfl SB
theorem step_c {w0 : World} {H : List SA} {p : Vector UInt8 16} {j s : Int} :
 CT Tryz.prog w0 (H) 192 [.agg (hlist p).toArray, .int .i64 j, .int .i64 s] (α := Unit) (fun _ => .agg (hlist (stepV p j s)).toArray) (fun _ => H) := by
 refine CT_intro Tryz.func192 rfl Tryz.ntmps192 rfl (T2 (ze rfl (Ef_boxN rfl (fun b3 => ?_))))
 refine ze rfl (Ef_allocN (fun b6 => ?_))
 refine T4 (ze rfl (Ef_slice0 (fun a7 c7 => ?_)))
 refine zy (Qt_slice_arr rfl Tryz.underlying291 rfl rfl) (TL_conv (fun w hw => hw.rowB0) ?_)
 refine ze rfl (Ef_appendB (sv := .slice _ _ _) (xv := .slice _ _ _) (hn := RdB.hash p inferInstance inferInstance (by decide)) (l := []) rfl rfl (by simp) rfl (fun a9 c9 => ?_))
 rw [List.nil_append]
 refine Qmi rfl rfl (zy (Qt_conv rfl rfl Tryz.underlying5) (Qmi rfl rfl (zy (Qt_conv rfl rfl Tryz.underlying5) (ze rfl (Ef_sliceN (m := ([u8Of (IntKind.u8.wrap j), u8Of (IntKind.u8.wrap s)] : List UInt8).length) [.int .u8 (IntKind.u8.wrap j), .int .u8 (IntKind.u8.wrap s)] (bytesV [u8Of (IntKind.u8.wrap j), u8Of (IntKind.u8.wrap s)]) rfl rfl rfl (u8_two j s) (by simp [Value.cells]) rfl rfl (fun a14 c14 => ?_))))))
 refine ze rfl (Ef_appendB (sv := .slice _ _ _) (xv := .slice _ _ _) (l := p.toList) rfl rfl (by simp) rfl (fun a15 c15 => ?_))
 refine ze rfl (zc (cut_c (l := p.toList ++ [u8Of (IntKind.u8.wrap j), u8Of (IntKind.u8.wrap s)]) (by simp)) rfl (fun x16 => ?_))
 refine zN (zs rfl rfl (TX (zQ ?_)))
 rw [show stepV p j s = cutV (p.toList ++ [u8Of (IntKind.u8.wrap j), u8Of (IntKind.u8.wrap s)]) from by unfold stepV; rfl]
 exact zX () [_] Tryz.results192 ⟨⟨_, rfl, res_cellN rfl⟩, trivial⟩ rfl SB
theorem walk_c {w0 : World} {H : List SA} {p : Vector UInt8 16} {j : Int} {fr to : Nat} (hto : to ≤ 1000) :
 CT Tryz.prog w0 (H) 188 [.agg (hlist p).toArray, .int .i64 j, .int .i64 (fr : Int), .int .i64 (to : Int)] (α := Unit) (fun _ => .agg (hlist (walkV p j fr (to - fr))).toArray) (fun _ => H) := by
 refine CT_intro Tryz.func188 rfl Tryz.ntmps188 rfl (T2 (ze rfl (Ef_boxN rfl (fun b4 => ?_))))
 refine ze rfl (Ef_allocN (fun b8 => ?_))
 refine TX (zS (T2 (Qmi rfl rfl (Qai rfl rfl (TX (zB ?_))))))
 refine T_loop [9, 11, 12, 13, 14, 15, 16, 17, 18, 19] [9] (fun us H' => ∃ (k : Nat), us = [.int .i64 ((fr + k : Nat) : Int)] ∧ blk b4 (.cells (hlist (walkV p j fr k)).toArray 291 (0, 0)) :: blk b8 (.cells (hlist (zeroV 16)).toArray 291 (0, 0)) :: H = H' ∧ k ≤ to - fr) (fun us => match us with | .int _ i :: _ => to - i.toNat | _ => 0) ⟨0, rfl, by rw [walkV_zero], by omega⟩ SB ?_
 rintro τ0 _ _  ⟨k, rfl, rfl, hk0⟩ _
 refine zS (T2 (Qmi rfl rfl (Qmi rfl rfl (zy (Qt_lss rfl rfl) (TX (zC rfl (fun h13 => ?_) (fun h13 => ?_)))))))
 ·
  have p13 := cL h13
  have hk2 : fr + k < to := by omega
  refine zk (zx (zS (zB (zR (zy (zn rfl rfl) (Qmi rfl rfl (Qmi rfl rfl (ze rfl (zc (step_c (p := walkV p j fr k) (j := j) (s := ((fr + k : Nat) : Int))) rfl (fun x19 => ?_))))))))))
  rw [walkV_succ]
  refine zN (zs rfl rfl (zz (X_block (zx (zR (Qmi rfl rfl (zy (zj rfl rfl) ?_)))))))
  rw [show ((fr + k : Nat) : Int) + 1 = ((fr + (k + 1) : Nat) : Int) from by omega]
  refine Qai rfl rfl (zz ?_)
  apply X_loop
  case ha => exact zA
  case hI => exact ⟨k + 1, rfl, rfl, by omega⟩
  case hm => exact by show to - ((fr + (k + 1) : Nat) : Int).toNat < to - ((fr + k : Nat) : Int).toNat; omega
  case hH => exact SB
 have p13 := cL h13
 have hke : k = to - fr := by omega
 refine zY (zG (zW (zE (zx (T2 (zy (zn rfl rfl) (zN (zs rfl rfl (TX (zQ ?_))))))))))
 rw [← hke]
 exact zX () [_] Tryz.results188 ⟨⟨_, rfl, res_cellN rfl⟩, trivial⟩ rfl SB
end Go.Proofs.YtnijomppbgdmnaaGreat
