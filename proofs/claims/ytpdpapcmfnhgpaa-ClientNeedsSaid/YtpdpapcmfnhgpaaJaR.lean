/- Walks: packages ots and keys, what sha puts together. -/
import Derived.Test.YtpdpapcmfnhgpaaKdR
import Derived.Test.YtpdpapcmfnhgpaaSesR
import Derived.Test.YtpdpapcmfnhgpaaTc
import Derived.Test.YtpdpapcmfnhgpaaSu
namespace Go.Proofs.Ytpdpapcmfnhgpaa
section
open Go.RowKit Go.Sx
set_option maxRecDepth 100000
set_option linter.unusedSimpArgs false
set_option linter.unusedVariables false
theorem Qt_slice_arrH {P : Program} {w0 : World} {σ : Env} {H : List SA} {d : Option Nat} {ty : TypeId} {pos : String} {aft : Array Edge} {g : Option (Nat × Bool)} {x hi : Operand} {t e n m b o : Nat} {i : TypeInfo} {k : IntKind} (hx : ev σ x = .pointer (some ⟨b, o, none⟩)) (hh : ev σ hi = .int k (m : Int)) (hu : P.underlying t = some (.array n e)) (hi' : P.info? e = some i) (hn : Nat.blt 0 n = true) (hm : m ≤ n) :
 Qt P w0 H σ ⟨d, .slice t x none (some hi) none, ty, pos, aft, g⟩ (.slice (some ⟨b, o, none⟩) m n) := fun w _ => by
 have h0 : n ≠ 0 := by simp only [Nat.blt_eq] at hn; omega
 have h1 : ¬ ((m : Int) < 0) := by omega
 have h2 : ¬ ((n : Int) < (m : Int)) := by omega
 simp only [execOp, hx, hh, Option.map_none, Option.map_some, Instr.sliceAt, Sem.run_bind, run_underlying hu, Result.andThen_ok, Instr.sureAddr, Sem.run_pure, Instr.sliceBounds, Instr.sliceBound, asIntOf, run_sizeOf_of hi', h0, if_false, Nat.zero_mul, Nat.sub_zero]
 simp [Addr.add, asIntOf, h1, h2, hm]
theorem RdB.hashPre {w0 : World} {H : List SA} {b n m : Nat} {T : TypeId} {fz : Nat × Nat} (x : Vector UInt8 n) (hm : Mem w0 H b (.cells (hlist x).toArray T fz)) (hmn : m ≤ n) (hn : n ≤ 1000) : RdB w0 H (.slice (some ⟨b, 0, none⟩) (x.toList.take m).length n) (x.toList.take m) :=
 ⟨fun w hw => ⟨_, _, _, rfl, by simp [bytesV], by simp; omega, by unfold maxLen; omega, fun _ => ⟨b, 0, rfl, fun j u hj => by
  rw [cell_of_blk (hm.get w hw)]
  have hj2 : (bytesV (x.toList.take m))[j]? = some u := hj
  rw [Nat.zero_add]
  unfold bytesV at hj2
  rw [List.map_take, List.getElem?_take] at hj2
  split at hj2
  · simpa [hlist, bytesV] using hj2
  · cases hj2⟩⟩⟩
/-- A text's piece. -/
def cutV (l : List UInt8) : Vector UInt8 16 := Vector.ofFn fun i => (sha l)[i.val]
theorem cutV_list (l : List UInt8) : (cutV l).toList = (sha l).toList.take 16 := by
 apply List.ext_getElem
 · simp
 · intro i h1 h2; simp [cutV, Vector.getElem_ofFn]
def stepV (p : Vector UInt8 16) (j s : Int) : Vector UInt8 16 := cutV (p.toList ++ [u8Of (IntKind.u8.wrap j), u8Of (IntKind.u8.wrap s)])
def walkV (p : Vector UInt8 16) (j : Int) (fr : Nat) : Nat → Vector UInt8 16
 | 0 => p
 | n + 1 => stepV (walkV p j fr n) j ((fr + n : Nat) : Int)
theorem walkV_zero (p : Vector UInt8 16) (j : Int) (fr : Nat) : walkV p j fr 0 = p := rfl
theorem walkV_succ (p : Vector UInt8 16) (j : Int) (fr n : Nat) : stepV (walkV p j fr n) j ((fr + n : Nat) : Int) = walkV p j fr (n + 1) := rfl
def secretV (seed : Vector UInt8 32) (ix j : Int) : Vector UInt8 16 := cutV (putFixed seed.toList (IntKind.u64.wrap ix) 8 ++ [u8Of (IntKind.u8.wrap j)])
abbrev intL (n : Int) : List Value := [.int .i64 n]
theorem intL_len (n : Int) : (intL n).length = 1 := rfl
theorem intL_one (n : Int) : (intL n).all Value.oneCell' = true := rfl
instance ji0 {v : Vector Int 35} : Cells (flatV intL v).toArray 35 := Cells.list (flatV_length _ 1 intL_len v) (flatV_one _ intL_one v)
instance ji1 {v : Vector Int 35} : SubAt (flatV intL v).toArray 0 35 (flatV intL v).toArray := ⟨by have h := flatV_length _ 1 intL_len v; apply Array.ext <;> simp [h]⟩
instance ji2 {v u : Vector Int 35} : Put (flatV intL v).toArray 0 (.agg (flatV intL u).toArray) (flatV intL u).toArray := ⟨by have := put_mid [] (flatV intL v) [] (v := .agg (flatV intL u).toArray) (o := 0) (n := 35) rfl (flatV_length _ 1 intL_len v) (by simp [Value.cells, flatV_length _ 1 intL_len]); simpa [Value.cells] using this, by simp [Value.cells, flatV_length _ 1 intL_len]⟩
theorem intV_get {n : Nat} (v : Vector Int n) (i : Nat) (hi : i < n) : (flatV intL v).toArray[i]? = some (.int .i64 v[i]) := by
 have h := flatV_slice intL 1 intL_len v i hi
 rw [Nat.mul_one] at h
 have h2 := congrArg (·[0]?) h
 simpa [List.getElem?_take, List.getElem?_drop] using h2
theorem intV_put {n : Nat} (v : Vector Int n) (i : Nat) (hi : i < n) (u : Int) : Put (flatV intL v).toArray i (.int .i64 u) (flatV intL (v.set i u)).toArray := by
 have h := put_elem intL 1 intL_len v i hi u
 rw [Nat.mul_one] at h
 exact ⟨h.ok, h.room⟩
theorem zero35 : (#[.int .i64 0, .int .i64 0, .int .i64 0, .int .i64 0, .int .i64 0, .int .i64 0, .int .i64 0, .int .i64 0, .int .i64 0, .int .i64 0, .int .i64 0, .int .i64 0, .int .i64 0, .int .i64 0, .int .i64 0, .int .i64 0, .int .i64 0, .int .i64 0, .int .i64 0, .int .i64 0, .int .i64 0, .int .i64 0, .int .i64 0, .int .i64 0, .int .i64 0, .int .i64 0, .int .i64 0, .int .i64 0, .int .i64 0, .int .i64 0, .int .i64 0, .int .i64 0, .int .i64 0, .int .i64 0, .int .i64 0] : Array Value) = (flatV intL (Vector.replicate 35 (0 : Int))).toArray := by kernel_rfl
theorem xor1 {a : Nat} (h : a < 1000) : IntKind.i64.wrap ((BitVec.ofInt IntKind.i64.bits (a : Int) ^^^ BitVec.ofInt IntKind.i64.bits 1).toNat : Int) = ((a ^^^ 1 : Nat) : Int) := by
 show IntKind.i64.wrap ((BitVec.ofInt 64 (a : Int) ^^^ BitVec.ofInt 64 ((1 : Nat) : Int)).toNat : Int) = _
 have hx : a ^^^ 1 < 2 ^ 10 := Nat.xor_lt_two_pow (by omega) (by decide)
 rw [BitVec.ofInt_natCast, BitVec.ofInt_natCast, BitVec.toNat_xor, BitVec.toNat_ofNat, BitVec.toNat_ofNat, Nat.mod_eq_of_lt (by omega), Nat.mod_eq_of_lt (by decide)]
 simp [IntKind.wrap, IntKind.bits, IntKind.signed]; omega
theorem putFixed8 (l : List UInt8) (x : Int) : (putFixed l x 8).length = l.length + 8 := by
 unfold putFixed
 rw [if_pos (show wideB 8 = true from rfl), List.length_append, fixed_length]; rfl
theorem u8_two (j s : Int) : (([.int .u8 (IntKind.u8.wrap j), .int .u8 (IntKind.u8.wrap s)] : List Value).flatMap fun v => v.cells.toList) = bytesV [u8Of (IntKind.u8.wrap j), u8Of (IntKind.u8.wrap s)] := by
 show [Value.int .u8 (IntKind.u8.wrap j), Value.int .u8 (IntKind.u8.wrap s)] = [byteV (u8Of (IntKind.u8.wrap j)), byteV (u8Of (IntKind.u8.wrap s))]
 rw [byteV_u8Of (wrap_u8_range j).1 (wrap_u8_range j).2, byteV_u8Of (wrap_u8_range s).1 (wrap_u8_range s).2]
attribute [local irreducible] sha cutV stepV walkV secretV putFixed
set_option maxHeartbeats 1000000 in
theorem cut_c {w0 : World} {H : List SA} {a : Option Addr} {l : List UInt8} {c : Nat} [hr : RdB w0 H (.slice a l.length c) l] (hl : l.length ≤ 4294967000) :
 CT Try.prog w0 (H) 183 [.slice a l.length c] (α := Unit) (fun _ => .agg (hlist (cutV l)).toArray) (fun _ => H) := by
 refine CT_intro Try.func183 rfl Try.ntmps183 rfl ?_
 refine T_seq ?_
 refine T_region ?_
 refine TL_e rfl (Ef_allocN (fun b2 => ?_))
 refine TL_nil ?_
 refine X_then ?_
 refine T_seq ?_
 refine T_region ?_
 refine TL_q (Qt_move (.slice _ _ _) rfl) rfl ?_
 refine TL_e rfl (Ef_call (sum_c hl) rfl (fun x5 => ?_))
 refine TL_e rfl (Ef_allocN (fun b3 => ?_))
 refine TL_n (Ef_storeN rfl rfl (?_))
 refine TL_nil ?_
 refine X_then ?_
 refine T_seq ?_
 refine T_region ?_
 refine TL_q (Qt_val (Qt_slice_arrH (m := 16) rfl rfl Try.underlying36 rfl rfl (by decide)) (show Value.slice (some ⟨b3, 0, none⟩) 16 32 = .slice (some ⟨b3, 0, none⟩) ((sha l).toList.take 16).length 32 from by simp)) rfl ?_
 refine TL_q (Qt_arrayAt (hr := RdB.hashPre (sha l) inferInstance (by decide) (by decide)) rfl Try.underlying256 (by simp) (by decide)) rfl ?_
 refine TL_q (Qt_loadRN (hr := RdC.bytes (h := RdB.hashPre (sha l) inferInstance (by decide) (by decide))) 1 (hlist (cutV l)) rfl (by rw [List.drop_zero]; unfold hlist; rw [cutV_list]; exact List.take_of_length_le (by simp)) (by simp) (by decide)) rfl ?_
 refine TL_n (Ef_storeN rfl rfl (?_))
 refine TL_nil ?_
 refine X_then ?_
 refine T_ret ?_
 exact X_ret () [_] Try.results183 ⟨⟨_, rfl, res_cellN rfl⟩, trivial⟩ rfl (Subs.st inferInstance)
set_option maxHeartbeats 1000000 in
theorem step_c {w0 : World} {H : List SA} {p : Vector UInt8 16} {j s : Int} :
 CT Try.prog w0 (H) 182 [.agg (hlist p).toArray, .int .i64 j, .int .i64 s] (α := Unit) (fun _ => .agg (hlist (stepV p j s)).toArray) (fun _ => H) := by
 refine CT_intro Try.func182 rfl Try.ntmps182 rfl ?_
 refine T_seq ?_
 refine T_region ?_
 refine TL_e rfl (Ef_boxN rfl (fun b3 => ?_))
 refine TL_e rfl (Ef_allocN (fun b6 => ?_))
 refine TL_nil ?_
 refine X_then ?_
 refine T_seq ?_
 refine T_region ?_
 refine TL_e rfl (Ef_slice0 (fun a7 c7 => ?_))
 refine TL_q (Qt_slice_arr rfl Try.underlying256 rfl rfl) rfl ?_
 refine TL_conv (fun w hw => hw.rowB0) ?_
 refine TL_e rfl (Ef_appendB (sv := .slice _ _ _) (xv := .slice _ _ _) (hn := RdB.hash p inferInstance inferInstance (by decide)) (l := []) rfl rfl (by simp) rfl (fun a9 c9 => ?_))
 rw [List.nil_append]
 refine TL_q (Qt_move (.int .i64 _) rfl) rfl ?_
 refine TL_q (Qt_conv rfl rfl Try.underlying5) rfl ?_
 refine TL_q (Qt_move (.int .i64 _) rfl) rfl ?_
 refine TL_q (Qt_conv rfl rfl Try.underlying5) rfl ?_
 refine TL_e rfl (Ef_sliceN (m := ([u8Of (IntKind.u8.wrap j), u8Of (IntKind.u8.wrap s)] : List UInt8).length) [.int .u8 (IntKind.u8.wrap j), .int .u8 (IntKind.u8.wrap s)] (bytesV [u8Of (IntKind.u8.wrap j), u8Of (IntKind.u8.wrap s)]) rfl rfl rfl (u8_two j s) (by simp [Value.cells]) rfl rfl (fun a14 c14 => ?_))
 refine TL_e rfl (Ef_appendB (sv := .slice _ _ _) (xv := .slice _ _ _) (l := p.toList) rfl rfl (by simp) rfl (fun a15 c15 => ?_))
 refine TL_e rfl (Ef_call (cut_c (l := p.toList ++ [u8Of (IntKind.u8.wrap j), u8Of (IntKind.u8.wrap s)]) (by simp)) rfl (fun x16 => ?_))
 refine TL_n (Ef_storeN rfl rfl (?_))
 refine TL_nil ?_
 refine X_then ?_
 refine T_ret ?_
 rw [show stepV p j s = cutV (p.toList ++ [u8Of (IntKind.u8.wrap j), u8Of (IntKind.u8.wrap s)]) from by unfold stepV; rfl]
 exact X_ret () [_] Try.results182 ⟨⟨_, rfl, res_cellN rfl⟩, trivial⟩ rfl (Subs.st inferInstance)
set_option maxHeartbeats 1000000 in
theorem walk_c {w0 : World} {H : List SA} {p : Vector UInt8 16} {j : Int} {fr to : Nat} (hto : to ≤ 1000) :
 CT Try.prog w0 (H) 150 [.agg (hlist p).toArray, .int .i64 j, .int .i64 (fr : Int), .int .i64 (to : Int)] (α := Unit) (fun _ => .agg (hlist (walkV p j fr (to - fr))).toArray) (fun _ => H) := by
 refine CT_intro Try.func150 rfl Try.ntmps150 rfl ?_
 refine T_seq ?_
 refine T_region ?_
 refine TL_e rfl (Ef_boxN rfl (fun b4 => ?_))
 refine TL_e rfl (Ef_allocN (fun b8 => ?_))
 refine TL_nil ?_
 refine X_then ?_
 refine T_seq ?_
 refine T_seq ?_
 refine T_region ?_
 refine TL_q (Qt_move (.int .i64 _) rfl) rfl ?_
 refine TL_q (Qt_assign (.int .i64 _) rfl) rfl ?_
 refine TL_nil ?_
 refine X_then ?_
 refine T_block ?_
 refine T_loop [9, 11, 12, 13, 14, 15, 16, 17, 18, 19] [9] (fun us H' => ∃ (k : Nat), us = [.int .i64 ((fr + k : Nat) : Int)] ∧ blk b4 (.cells (hlist (walkV p j fr k)).toArray 256 (0, 0)) :: blk b8 (.cells (hlist (zeroV 16)).toArray 256 (0, 0)) :: H = H' ∧ k ≤ to - fr) (fun us => match us with | .int _ i :: _ => to - i.toNat | _ => 0) ⟨0, rfl, by rw [walkV_zero], by omega⟩ (Subs.st inferInstance) ?_
 rintro τ0 _ _  ⟨k, rfl, rfl, hk0⟩ _
 refine T_seq ?_
 refine T_seq ?_
 refine T_region ?_
 refine TL_q (Qt_move (.int .i64 _) rfl) rfl ?_
 refine TL_q (Qt_move (.int .i64 _) rfl) rfl ?_
 refine TL_q (Qt_lss rfl rfl) rfl ?_
 refine TL_nil ?_
 refine X_then ?_
 refine T_cond rfl (fun h13 => ?_) (fun h13 => ?_)
 ·
  have p13 := h13
  try simp only [decide_eq_true_eq, decide_eq_false_iff_not, Bool.not_eq_true', Bool.not_eq_false', Option.isNone_iff_eq_none, ne_eq, Decidable.not_not, Int.not_lt, Int.not_le] at p13
  have hk2 : fr + k < to := by omega
  refine T_skip ?_
  refine X_then ?_
  refine T_seq ?_
  refine T_block ?_
  refine T_region ?_
  refine TL_q (Qt_loadN rfl rfl) rfl ?_
  refine TL_q (Qt_move (.int .i64 _) rfl) rfl ?_
  refine TL_q (Qt_move (.int .i64 _) rfl) rfl ?_
  refine TL_e rfl (Ef_call (step_c (p := walkV p j fr k) (j := j) (s := ((fr + k : Nat) : Int))) rfl (fun x19 => ?_))
  rw [walkV_succ]
  refine TL_n (Ef_storeN rfl rfl (?_))
  refine TL_nil ?_
  refine X_block ?_
  refine X_then ?_
  refine T_region ?_
  refine TL_q (Qt_move (.int .i64 _) rfl) rfl ?_
  first
   | refine TL_q (Qt_add rfl rfl (by omega) (by omega)) rfl ?_
   | refine TL_q (Qt_addw rfl rfl) rfl ?_
  rw [show ((fr + k : Nat) : Int) + 1 = ((fr + (k + 1) : Nat) : Int) from by omega]
  refine TL_q (Qt_assign (.int .i64 _) rfl) rfl ?_
  refine TL_nil ?_
  apply X_loop
  case ha => exact (by repeat (first | with_reducible exact agree_refl | refine agree_upd rfl ?_ | refine agree_mix rfl ?_ | refine agree_setAll rfl ?_))
  case hI => exact ⟨k + 1, rfl, rfl, by omega⟩
  case hm => exact by show to - ((fr + (k + 1) : Nat) : Int).toNat < to - ((fr + k : Nat) : Int).toNat; omega
  case hH => exact (Subs.st inferInstance)
 ·
  have p13 := h13
  try simp only [decide_eq_true_eq, decide_eq_false_iff_not, Bool.not_eq_true', Bool.not_eq_false', Option.isNone_iff_eq_none, ne_eq, Decidable.not_not, Int.not_lt, Int.not_le] at p13
  have hke : k = to - fr := by omega
  refine T_exit ?_
  refine X_then_exit ?_
  refine X_loop_exit ?_
  refine X_block_exit ?_
  refine X_then ?_
  refine T_seq ?_
  refine T_region ?_
  refine TL_q (Qt_loadN rfl rfl) rfl ?_
  refine TL_n (Ef_storeN rfl rfl (?_))
  refine TL_nil ?_
  refine X_then ?_
  refine T_ret ?_
  rw [← hke]
  exact X_ret () [_] Try.results150 ⟨⟨_, rfl, res_cellN rfl⟩, trivial⟩ rfl (Subs.st inferInstance)
set_option maxHeartbeats 1000000 in
theorem secret_c {w0 : World} {H : List SA} {seed : Vector UInt8 32} {ix j : Int} :
 CT Try.prog w0 (H) 151 [.agg (hlist seed).toArray, .int .i64 ix, .int .i64 j] (α := Unit) (fun _ => .agg (hlist (secretV seed ix j)).toArray) (fun _ => H) := by
 refine CT_intro Try.func151 rfl Try.ntmps151 rfl ?_
 refine T_seq ?_
 refine T_region ?_
 refine TL_e rfl (Ef_boxN rfl (fun b3 => ?_))
 refine TL_e rfl (Ef_allocN (fun b6 => ?_))
 refine TL_nil ?_
 refine X_then ?_
 refine T_seq ?_
 refine T_region ?_
 refine TL_q (Qt_val (Qt_slice_arr rfl Try.underlying36 rfl rfl) (show Value.slice (some ⟨b3, 0, none⟩) 32 32 = .slice (some ⟨b3, 0, none⟩) seed.toList.length 32 from by simp)) rfl ?_
 refine TL_q (Qt_move (.int .i64 _) rfl) rfl ?_
 refine TL_q (Qt_conv rfl rfl Try.underlying167) rfl ?_
 refine TL_e rfl (Ef_call (putFixed_c (a := some ⟨b3, 0, none⟩) (l := seed.toList) (c := 32) (x := IntKind.u64.wrap ix) (n := 8) (by simp) (u64_nonneg _)) rfl (fun x11 => ?_))
 refine TL_q (Qt_assign (.slice _ _ _) rfl) rfl ?_
 refine TL_nil ?_
 refine X_then ?_
 refine T_seq ?_
 refine T_region ?_
 refine TL_q (Qt_move (.slice _ _ _) rfl) rfl ?_
 refine TL_q (Qt_move (.int .i64 _) rfl) rfl ?_
 refine TL_q (Qt_conv rfl rfl Try.underlying5) rfl ?_
 refine TL_e rfl (Ef_slice1 (v := .int .u8 (IntKind.u8.wrap j)) rfl (fun a15 c15 => ?_))
 refine TL_e rfl (Ef_appendb (n := IntKind.u8.wrap j) (sv := .slice _ _ _) (xv := .slice _ _ _) rfl rfl (wrap_u8_range _) (by have := putFixed8 seed.toList (IntKind.u64.wrap ix); simp at this ⊢; omega) rfl (fun a16 c16 => ?_))
 refine TL_e rfl (Ef_call (cut_c (l := putFixed seed.toList (IntKind.u64.wrap ix) 8 ++ [u8Of (IntKind.u8.wrap j)]) (by have := putFixed8 seed.toList (IntKind.u64.wrap ix); simp at this ⊢; omega)) rfl (fun x17 => ?_))
 refine TL_n (Ef_storeN rfl rfl (?_))
 refine TL_nil ?_
 refine X_then ?_
 refine T_ret ?_
 rw [show secretV seed ix j = cutV (putFixed seed.toList (IntKind.u64.wrap ix) 8 ++ [u8Of (IntKind.u8.wrap j)]) from by unfold secretV; rfl]
 exact X_ret () [_] Try.results151 ⟨⟨_, rfl, res_cellN rfl⟩, trivial⟩ rfl (Subs.st inferInstance)
set_option maxHeartbeats 1000000 in
theorem public_c {w0 : World} {H : List SA} {seed : Vector UInt8 32} {ix : Int} :
 CT Try.prog w0 (H) 152 [.agg (hlist seed).toArray, .int .i64 ix] (α := Vector UInt8 32) (fun y => .agg (hlist y).toArray) (fun _ => H) := by
 refine CT_intro Try.func152 rfl Try.ntmps152 rfl ?_
 refine T_seq ?_
 refine T_region ?_
 refine TL_e rfl (Ef_boxN rfl (fun b2 => ?_))
 refine TL_e rfl (Ef_allocN (fun b4 => ?_))
 refine TL_nil ?_
 refine X_then ?_
 refine T_seq ?_
 refine T_region ?_
 refine TL_q (Qt_assign (.slice _ _ _) rfl) rfl ?_
 refine TL_nil ?_
 refine X_then ?_
 refine T_seq ?_
 refine T_seq ?_
 refine T_region ?_
 refine TL_q (Qt_move (.int .i64 _) rfl) rfl ?_
 refine TL_nil ?_
 refine X_then ?_
 refine T_block ?_
 refine T_loop [5, 6, 7, 8, 9, 10, 11, 12, 13, 14, 15, 16, 17, 18, 19, 20] [8, 5] (fun us H' => ∃ (k : Nat) (a : Option Addr) (c : Nat) (l : List UInt8), us = [.int .i64 (k : Int), .slice a l.length c] ∧ row (.slice a (l).length c) 5 1 (bytesV (l)) :: blk b2 (.cells (hlist seed).toArray 36 (0, 0)) :: blk b4 (.cells (hlist (zeroV 32)).toArray 36 (0, 0)) :: H = H' ∧ k ≤ 35 ∧ (l.length = 16 * k)) (fun us => match us with | .int _ i :: _ => 35 - i.toNat | _ => 0) ⟨0, none, 0, [], rfl, rfl, by omega, rfl⟩ (fun w hw => (Subs.st inferInstance w hw : St w0 (blk b2 (.cells (hlist seed).toArray 36 (0, 0)) :: blk b4 (.cells (hlist (zeroV 32)).toArray 36 (0, 0)) :: H) w).addNilB 5) ?_
 rintro τ0 _ _  ⟨k, a, c, l, rfl, rfl, hk0, hl⟩ _
 refine T_seq ?_
 refine T_region ?_
 refine TL_q (Qt_lss rfl rfl) rfl ?_
 refine TL_nil ?_
 refine X_then ?_
 refine T_seq ?_
 refine T_cond rfl (fun h9 => ?_) (fun h9 => ?_)
 ·
  have p9 := h9
  try simp only [decide_eq_true_eq, decide_eq_false_iff_not, Bool.not_eq_true', Bool.not_eq_false', Option.isNone_iff_eq_none, ne_eq, Decidable.not_not, Int.not_lt, Int.not_le] at p9
  have hk35 : k < 35 := by omega
  refine T_skip ?_
  refine X_then ?_
  refine T_seq ?_
  refine T_block ?_
  refine T_seq ?_
  refine T_region ?_
  refine TL_q (Qt_move (.int .i64 _) rfl) rfl ?_
  refine TL_q (Qt_assign (.int .i64 _) rfl) rfl ?_
  refine TL_nil ?_
  refine X_then ?_
  refine T_seq ?_
  refine T_region ?_
  refine TL_q (Qt_loadN rfl rfl) rfl ?_
  refine TL_q (Qt_move (.int .i64 _) rfl) rfl ?_
  refine TL_q (Qt_move (.int .i64 _) rfl) rfl ?_
  refine TL_e rfl (Ef_call (secret_c (seed := seed) (ix := ix) (j := (k : Int))) rfl (fun x14 => ?_))
  refine TL_q (Qt_move (.int .i64 _) rfl) rfl ?_
  refine TL_e rfl (Ef_call (walk_c (p := secretV seed ix k) (j := (k : Int)) (fr := 0) (to := 15) (by decide)) rfl (fun x16 => ?_))
  refine TL_e rfl (Ef_allocN (fun b7 => ?_))
  refine TL_n (Ef_storeN rfl rfl (?_))
  refine TL_nil ?_
  refine X_then ?_
  refine T_region ?_
  refine TL_q (Qt_move (.slice _ _ _) rfl) rfl ?_
  refine TL_q (Qt_slice_arr rfl Try.underlying256 rfl rfl) rfl ?_
  refine TL_e rfl (Ef_appendB (sv := .slice _ _ _) (xv := .slice _ _ _) (hn := RdB.hash ((walkV (secretV seed ix k) k 0 15)) inferInstance inferInstance (by decide)) rfl rfl (by simp; omega) rfl (fun a19 c19 => ?_))
  refine TL_q (Qt_assign (.slice _ _ _) rfl) rfl ?_
  refine TL_nil ?_
  refine X_block ?_
  refine X_then ?_
  refine T_region ?_
  first
   | refine TL_q (Qt_add rfl rfl (by omega) (by omega)) rfl ?_
   | refine TL_q (Qt_addw rfl rfl) rfl ?_
  refine TL_q (Qt_move (.int .i64 _) rfl) rfl ?_
  refine TL_nil ?_
  apply X_loop
  case ha => exact (by repeat (first | with_reducible exact agree_refl | refine agree_upd rfl ?_ | refine agree_mix rfl ?_ | refine agree_setAll rfl ?_))
  case hI => exact ⟨k + 1, a19, c19, l ++ (walkV (secretV seed ix k) k 0 15).toList, rfl, rfl, by omega, by simp [hl]; omega⟩
  case hm => exact by show 35 - (k + 1 : Int).toNat < 35 - (k : Int).toNat; omega
  case hH => exact (Subs.st inferInstance)
 ·
  have p9 := h9
  try simp only [decide_eq_true_eq, decide_eq_false_iff_not, Bool.not_eq_true', Bool.not_eq_false', Option.isNone_iff_eq_none, ne_eq, Decidable.not_not, Int.not_lt, Int.not_le] at p9
  have hk35 : k = 35 := by omega
  refine T_exit ?_
  refine X_then_exit ?_
  refine X_loop_exit ?_
  refine X_block_exit ?_
  refine X_then ?_
  refine T_seq ?_
  refine T_region ?_
  refine TL_q (Qt_move (.slice _ _ _) rfl) rfl ?_
  refine TL_e rfl (Ef_call (sum_c (l := l) (by omega)) rfl (fun x22 => ?_))
  refine TL_n (Ef_storeN rfl rfl (?_))
  refine TL_nil ?_
  refine X_then ?_
  refine T_ret ?_
  exact X_ret (sha l) [_] Try.results152 ⟨⟨_, rfl, res_cellN rfl⟩, trivial⟩ rfl (Subs.st inferInstance)
set_option maxHeartbeats 1000000 in
theorem leaves_c {w0 : World} {H : List SA} {seed : Vector UInt8 32} :
 CT Try.prog w0 (H) 105 [.agg (hlist seed).toArray] (α := AC × List (Vector UInt8 32)) (fun y => .slice y.1.a y.2.length y.1.c) (fun y => pu (y.2.length = 8) :: row (.slice y.1.a (y.2).length y.1.c) 36 32 ((y.2).flatMap fun h : Vector UInt8 32 => hlist h) :: H) := by
 refine CT_intro Try.func105 rfl Try.ntmps105 rfl ?_
 refine T_seq ?_
 refine T_region ?_
 refine TL_e rfl (Ef_boxN rfl (fun b1 => ?_))
 refine TL_q (Qt_assign (.slice _ _ _) rfl) rfl ?_
 refine TL_nil ?_
 refine X_then ?_
 refine T_seq ?_
 refine T_region ?_
 refine TL_q (Qt_assign (.slice _ _ _) rfl) rfl ?_
 refine TL_nil ?_
 refine X_then ?_
 refine T_seq ?_
 refine T_seq ?_
 refine T_region ?_
 refine TL_q (Qt_move (.int .i64 _) rfl) rfl ?_
 refine TL_nil ?_
 refine X_then ?_
 refine T_block ?_
 refine T_loop [3, 4, 5, 6, 7, 8, 9, 10, 11, 12, 13, 14] [5, 3] (fun us H' => ∃ (k : Nat) (a : Option Addr) (c : Nat) (hs : List (Vector UInt8 32)), us = [.int .i64 (k : Int), .slice a hs.length c] ∧ row (.slice a (hs).length c) 36 32 ((hs).flatMap fun h : Vector UInt8 32 => hlist h) :: blk b1 (.cells (hlist seed).toArray 36 (0, 0)) :: H = H' ∧ k ≤ 8 ∧ (hs.length = k)) (fun us => match us with | .int _ i :: _ => 8 - i.toNat | _ => 0) ⟨0, none, 0, [], rfl, rfl, by omega, rfl⟩ (fun w hw => (Subs.st inferInstance w hw : St w0 (blk b1 (.cells (hlist seed).toArray 36 (0, 0)) :: H) w).addNil 36 32) ?_
 rintro τ0 _ _  ⟨k, a, c, hs, rfl, rfl, hk0, hl⟩ _
 refine T_seq ?_
 refine T_region ?_
 refine TL_q (Qt_lss rfl rfl) rfl ?_
 refine TL_nil ?_
 refine X_then ?_
 refine T_seq ?_
 refine T_cond rfl (fun h6 => ?_) (fun h6 => ?_)
 ·
  have p6 := h6
  try simp only [decide_eq_true_eq, decide_eq_false_iff_not, Bool.not_eq_true', Bool.not_eq_false', Option.isNone_iff_eq_none, ne_eq, Decidable.not_not, Int.not_lt, Int.not_le] at p6
  refine T_skip ?_
  refine X_then ?_
  refine T_seq ?_
  refine T_block ?_
  refine T_seq ?_
  refine T_region ?_
  refine TL_q (Qt_move (.int .i64 _) rfl) rfl ?_
  refine TL_q (Qt_assign (.int .i64 _) rfl) rfl ?_
  refine TL_nil ?_
  refine X_then ?_
  refine T_region ?_
  refine TL_q (Qt_move (.slice _ _ _) rfl) rfl ?_
  refine TL_q (Qt_loadN rfl rfl) rfl ?_
  refine TL_q (Qt_move (.int .i64 _) rfl) rfl ?_
  refine TL_e rfl (Ef_call (public_c (seed := seed) (ix := (k : Int))) rfl (fun x11 => ?_))
  refine TL_e rfl (Ef_sliceN (m := ([x11] : List (Vector UInt8 32)).length) [.agg (hlist (x11)).toArray] (([x11]).flatMap fun h : Vector UInt8 32 => hlist h) rfl rfl rfl rfl (by simp [Value.cells]) rfl rfl (fun a12 c12 => ?_))
  refine TL_e rfl (Ef_appendS (fun h : Vector UInt8 32 => hlist h) (sv := .slice _ _ _) (xv := .slice _ _ _) (xs := hs) (ys := [x11]) hlist_length hlist_one rfl rfl (by simp; omega) rfl rfl (fun a13 c13 => ?_))
  refine TL_q (Qt_assign (.slice _ _ _) rfl) rfl ?_
  refine TL_nil ?_
  refine X_block ?_
  refine X_then ?_
  refine T_region ?_
  first
   | refine TL_q (Qt_add rfl rfl (by omega) (by omega)) rfl ?_
   | refine TL_q (Qt_addw rfl rfl) rfl ?_
  refine TL_q (Qt_move (.int .i64 _) rfl) rfl ?_
  refine TL_nil ?_
  apply X_loop
  case ha => exact (by repeat (first | with_reducible exact agree_refl | refine agree_upd rfl ?_ | refine agree_mix rfl ?_ | refine agree_setAll rfl ?_))
  case hI => exact ⟨k + 1, a13, c13, hs ++ [x11], rfl, rfl, by omega, by simp [hl]⟩
  case hm => exact by show 8 - (k + 1 : Int).toNat < 8 - (k : Int).toNat; omega
  case hH => exact (Subs.st inferInstance)
 ·
  have p6 := h6
  try simp only [decide_eq_true_eq, decide_eq_false_iff_not, Bool.not_eq_true', Bool.not_eq_false', Option.isNone_iff_eq_none, ne_eq, Decidable.not_not, Int.not_lt, Int.not_le] at p6
  have hk8 : k = 8 := by omega
  refine T_exit ?_
  refine X_then_exit ?_
  refine X_loop_exit ?_
  refine X_block_exit ?_
  refine X_then ?_
  refine T_seq ?_
  refine T_region ?_
  refine TL_q (Qt_move (.slice _ _ _) rfl) rfl ?_
  refine TL_q (Qt_assign (.slice _ _ _) rfl) rfl ?_
  refine TL_nil ?_
  refine X_then ?_
  refine T_ret ?_
  exact X_ret (⟨a, c⟩, hs) [_] Try.results105 ⟨rfl, trivial⟩ rfl (fun w hw => (Subs.st inferInstance w hw : St w0 (row (.slice a (hs).length c) 36 32 ((hs).flatMap fun h : Vector UInt8 32 => hlist h) :: H) w).addPure (by show hs.length = 8; omega))
set_option maxHeartbeats 1000000 in
theorem joined_c {w0 : World} {H : List SA} {pa : Option Addr} {pc : Nat} {ps : List BS} [pk : RdC w0 H (.slice pa ps.length pc) 1 (ps.map BS.val)] [pke : RdE w0 H ps] (hn : ps.length ≤ 100) (hpe : ∀ x ∈ ps, x.l.length ≤ 1000) :
 CT Try.prog w0 (H) 184 [.slice pa ps.length pc] (α := AC × List UInt8) (fun y => .slice y.1.a y.2.length y.1.c) (fun y => pu (y.2.length ≤ 1000 * ps.length) :: row (.slice y.1.a (y.2).length y.1.c) 5 1 (bytesV (y.2)) :: H) := by
 refine CT_intro Try.func184 rfl Try.ntmps184 rfl ?_
 refine T_seq ?_
 refine T_region ?_
 refine TL_q (Qt_assign (.slice _ _ _) rfl) rfl ?_
 refine TL_nil ?_
 refine X_then ?_
 refine T_seq ?_
 refine T_region ?_
 refine TL_q (Qt_assign (.slice _ _ _) rfl) rfl ?_
 refine TL_nil ?_
 refine X_then ?_
 refine T_seq ?_
 refine T_seq ?_
 refine T_region ?_
 refine TL_q (Qt_move (.slice _ _ _) rfl) rfl ?_
 refine TL_q (Qt_len_slice rfl Try.underlying38) rfl ?_
 refine TL_q (Qt_move (.int .i64 _) rfl) rfl ?_
 refine TL_nil ?_
 refine X_then ?_
 refine T_block ?_
 refine T_loop [3, 5, 8, 9, 10, 11, 12, 13, 14, 15] [8, 3] (fun us H' => ∃ (k : Nat) (a : Option Addr) (c : Nat) (l : List UInt8), us = [.int .i64 (k : Int), .slice a l.length c] ∧ row (.slice a (l).length c) 5 1 (bytesV (l)) :: H = H' ∧ k ≤ ps.length ∧ (l.length ≤ 1000 * k)) (fun us => match us with | .int _ i :: _ => ps.length - i.toNat | _ => 0) ⟨0, none, 0, [], rfl, rfl, by omega, by simp⟩ (fun w hw => (Subs.st inferInstance w hw : St w0 H w).addNilB 5) ?_
 rintro τ0 _ _  ⟨k, a, c, l, rfl, rfl, hk0, hl⟩ _
 refine T_seq ?_
 refine T_region ?_
 refine TL_q (Qt_lss rfl rfl) rfl ?_
 refine TL_nil ?_
 refine X_then ?_
 refine T_seq ?_
 refine T_cond rfl (fun h9 => ?_) (fun h9 => ?_)
 ·
  have p9 := h9
  try simp only [decide_eq_true_eq, decide_eq_false_iff_not, Bool.not_eq_true', Bool.not_eq_false', Option.isNone_iff_eq_none, ne_eq, Decidable.not_not, Int.not_lt, Int.not_le] at p9
  have hk : k < ps.length := by omega
  have hpk := hpe _ (List.getElem_mem hk)
  have : RdB w0 H (.slice ps[k].a ps[k].l.length ps[k].c) ps[k].l := pke.get (List.getElem_mem hk)
  refine T_skip ?_
  refine X_then ?_
  refine T_seq ?_
  refine T_block ?_
  refine T_seq ?_
  refine T_region ?_
  refine TL_q (Qt_indexR rfl rfl (by omega) (by simp; omega)) rfl ?_
  refine TL_q (Qt_loadR (.slice _ _ _) rfl (vals_get _ _ hk)) rfl ?_
  refine TL_q (Qt_assign (.slice _ _ _) rfl) rfl ?_
  refine TL_nil ?_
  refine X_then ?_
  refine T_region ?_
  refine TL_q (Qt_move (.slice _ _ _) rfl) rfl ?_
  refine TL_q (Qt_move (.slice _ _ _) rfl) rfl ?_
  refine TL_e rfl (Ef_appendB (sv := .slice _ _ _) (xv := .slice _ _ _) (l := l) (l' := ps[k].l) rfl rfl (by omega) rfl (fun a14 c14 => ?_))
  refine TL_q (Qt_assign (.slice _ _ _) rfl) rfl ?_
  refine TL_nil ?_
  refine X_block ?_
  refine X_then ?_
  refine T_region ?_
  first
   | refine TL_q (Qt_add rfl rfl (by omega) (by omega)) rfl ?_
   | refine TL_q (Qt_addw rfl rfl) rfl ?_
  refine TL_q (Qt_move (.int .i64 _) rfl) rfl ?_
  refine TL_nil ?_
  apply X_loop
  case ha => exact (by repeat (first | with_reducible exact agree_refl | refine agree_upd rfl ?_ | refine agree_mix rfl ?_ | refine agree_setAll rfl ?_))
  case hI => exact ⟨k + 1, a14, c14, l ++ ps[k].l, rfl, rfl, by omega, by rw [List.length_append]; omega⟩
  case hm => exact by show ps.length - (k + 1 : Int).toNat < ps.length - (k : Int).toNat; omega
  case hH => exact (Subs.st inferInstance)
 ·
  have p9 := h9
  try simp only [decide_eq_true_eq, decide_eq_false_iff_not, Bool.not_eq_true', Bool.not_eq_false', Option.isNone_iff_eq_none, ne_eq, Decidable.not_not, Int.not_lt, Int.not_le] at p9
  have hkn : k = ps.length := by omega
  refine T_exit ?_
  refine X_then_exit ?_
  refine X_loop_exit ?_
  refine X_block_exit ?_
  refine X_then ?_
  refine T_seq ?_
  refine T_region ?_
  refine TL_q (Qt_move (.slice _ _ _) rfl) rfl ?_
  refine TL_q (Qt_assign (.slice _ _ _) rfl) rfl ?_
  refine TL_nil ?_
  refine X_then ?_
  refine T_ret ?_
  exact X_ret (⟨a, c⟩, l) [_] Try.results184 ⟨rfl, trivial⟩ rfl (fun w hw => (Subs.st inferInstance w hw : St w0 (row (.slice a (l).length c) 5 1 (bytesV (l)) :: H) w).addPure (by rw [← hkn]; exact hl))
set_option maxHeartbeats 1000000 in
theorem pair_c {w0 : World} {H : List SA} {x y : Vector UInt8 32} :
 CT Try.prog w0 (H) 153 [.agg (hlist x).toArray, .agg (hlist y).toArray] (α := Vector UInt8 32) (fun y => .agg (hlist y).toArray) (fun _ => H) := by
 refine CT_intro Try.func153 rfl Try.ntmps153 rfl ?_
 refine T_seq ?_
 refine T_region ?_
 refine TL_e rfl (Ef_boxN rfl (fun b2 => ?_))
 refine TL_e rfl (Ef_boxN rfl (fun b3 => ?_))
 refine TL_e rfl (Ef_allocN (fun b4 => ?_))
 refine TL_nil ?_
 refine X_then ?_
 refine T_seq ?_
 refine T_draw (blk b2 (.cells (hlist x).toArray 36 (0, 0)) :: blk b3 (.cells (hlist y).toArray 36 (0, 0)) :: H) [(0, true), (1, true), (2, false), (3, false), (4, false), (5, false)] (by kernel_rfl) (by kernel_rfl) rfl (by kernel_rfl) (Subs.st inferInstance) (fun hns0 => ?_)
 refine DL_q hns0 rfl (Qt_val (Qt_slice_arr rfl Try.underlying36 rfl rfl) (show Value.slice (some ⟨b2, 0, none⟩) 32 32 = .slice (some ⟨b2, 0, none⟩) x.toList.length 32 from by simp)) rfl ?_
 refine DL_q hns0 rfl (Qt_val (Qt_slice_arr rfl Try.underlying36 rfl rfl) (show Value.slice (some ⟨b3, 0, none⟩) 32 32 = .slice (some ⟨b3, 0, none⟩) y.toList.length 32 from by simp)) rfl ?_
 refine DL_e rfl rfl (Ef_sliceN (m := ([(⟨some ⟨b2, 0, none⟩, 32, x.toList⟩ : BS), ⟨some ⟨b3, 0, none⟩, 32, y.toList⟩] : List BS).length) [.slice (some ⟨b2, 0, none⟩) x.toList.length 32, .slice (some ⟨b3, 0, none⟩) y.toList.length 32] (([(⟨some ⟨b2, 0, none⟩, 32, x.toList⟩ : BS), ⟨some ⟨b3, 0, none⟩, 32, y.toList⟩] : List BS).map BS.val) rfl rfl rfl rfl (by simp [Value.cells]) rfl rfl (fun a7 c7 => ⟨(Subs.st inferInstance), ?_⟩))
 refine DL_e rfl rfl (Ef_call (joined_c (ps := [(⟨some ⟨b2, 0, none⟩, 32, x.toList⟩ : BS), ⟨some ⟨b3, 0, none⟩, 32, y.toList⟩]) (pke := ⟨fun z hz => by rcases List.mem_cons.1 hz with rfl | hz; exact (RdB.hashL (x := x)).rd; rw [List.mem_singleton.1 hz]; exact (RdB.hashL (x := y)).rd⟩) (by simp) (fun z hz => by rcases List.mem_cons.1 hz with rfl | hz; simp; rw [List.mem_singleton.1 hz]; simp)) rfl (fun x8 => ⟨(Subs.st inferInstance), ?_⟩))
 refine DL_pure (fun h8 => ?_)
 refine DL_e rfl rfl (Ef_call (sum_c (l := x8.2) (by have h8b : x8.2.length ≤ 1000 * 2 := h8; omega)) rfl (fun x9 => ⟨(Subs.st inferInstance), ?_⟩))
 refine DL_n rfl (Ef_storeN rfl rfl (⟨(Subs.st inferInstance), ?_⟩))
 refine DL_nil ?_
 refine X_then ?_
 refine T_ret ?_
 exact X_ret (sha x8.2) [_] Try.results153 ⟨⟨_, rfl, res_cellN rfl⟩, trivial⟩ rfl (Subs.st inferInstance)
set_option maxHeartbeats 1000000 in
theorem up_c {w0 : World} {H : List SA} {ga : Option Addr} {gc : Nat} {gs : List (Vector UInt8 32)} [hr : RdC w0 H (.slice ga gs.length gc) 32 ((gs).flatMap fun h : Vector UInt8 32 => hlist h)] (hn : gs.length ≤ 1000) :
 CT Try.prog w0 (H) 106 [.slice ga gs.length gc] (α := AC × List (Vector UInt8 32)) (fun y => .slice y.1.a y.2.length y.1.c) (fun y => pu (y.2.length = gs.length / 2) :: row (.slice y.1.a (y.2).length y.1.c) 36 32 ((y.2).flatMap fun h : Vector UInt8 32 => hlist h) :: H) := by
 refine CT_intro Try.func106 rfl Try.ntmps106 rfl ?_
 refine T_seq ?_
 refine T_region ?_
 refine TL_q (Qt_assign (.slice _ _ _) rfl) rfl ?_
 refine TL_nil ?_
 refine X_then ?_
 refine T_seq ?_
 refine T_region ?_
 refine TL_q (Qt_assign (.slice _ _ _) rfl) rfl ?_
 refine TL_nil ?_
 refine X_then ?_
 refine T_seq ?_
 refine T_seq ?_
 refine T_region ?_
 refine TL_q (Qt_assign (.int .i64 _) rfl) rfl ?_
 refine TL_nil ?_
 refine X_then ?_
 refine T_block ?_
 refine T_loop [3, 4, 5, 6, 7, 8, 9, 10, 11, 12, 13, 14, 15, 16, 17, 18, 19, 20, 21, 22, 23, 24] [4, 3] (fun us H' => ∃ (k : Nat) (a : Option Addr) (c : Nat) (hs : List (Vector UInt8 32)), us = [.int .i64 ((2 * k : Nat) : Int), .slice a hs.length c] ∧ row (.slice a (hs).length c) 36 32 ((hs).flatMap fun h : Vector UInt8 32 => hlist h) :: H = H' ∧ k ≤ gs.length / 2 ∧ hs.length = k) (fun us => match us with | .int _ i :: _ => gs.length - i.toNat | _ => 0) ⟨0, none, 0, [], rfl, rfl, by omega, rfl⟩ (fun w hw => (Subs.st inferInstance w hw : St w0 H w).addNil 36 32) ?_
 rintro τ0 _ _  ⟨k, a, c, hs, rfl, rfl, hk0, hl⟩ _
 refine T_seq ?_
 refine T_seq ?_
 refine T_region ?_
 refine TL_q (Qt_move (.int .i64 _) rfl) rfl ?_
 first
  | refine TL_q (Qt_add rfl rfl (by omega) (by omega)) rfl ?_
  | refine TL_q (Qt_addw rfl rfl) rfl ?_
 refine TL_q (Qt_move (.slice _ _ _) rfl) rfl ?_
 refine TL_q (Qt_len_slice rfl Try.underlying184) rfl ?_
 refine TL_q (Qt_lss rfl rfl) rfl ?_
 refine TL_nil ?_
 refine X_then ?_
 refine T_cond rfl (fun h9 => ?_) (fun h9 => ?_)
 ·
  have p9 := h9
  try simp only [decide_eq_true_eq, decide_eq_false_iff_not, Bool.not_eq_true', Bool.not_eq_false', Option.isNone_iff_eq_none, ne_eq, Decidable.not_not, Int.not_lt, Int.not_le] at p9
  have hk2 : 2 * k + 1 < gs.length := by omega
  refine T_skip ?_
  refine X_then ?_
  refine T_seq ?_
  refine T_block ?_
  refine T_draw H [(0, true), (1, true), (2, true), (3, true), (4, true), (5, true), (6, true), (7, true), (8, true), (9, true), (10, false), (11, false), (12, false), (13, true)] (by kernel_rfl) (by kernel_rfl) rfl (by kernel_rfl) (Subs.st inferInstance) (fun hns0 => ?_)
  refine DL_q hns0 rfl (Qt_move (.slice _ _ _) rfl) rfl ?_
  refine DL_q hns0 rfl (Qt_move (.slice _ _ _) rfl) rfl ?_
  refine DL_q hns0 rfl (Qt_move (.int .i64 _) rfl) rfl ?_
  refine DL_q hns0 rfl (Qt_indexN rfl rfl (by omega) (by omega)) rfl ?_
  refine DL_q hns0 rfl (Qt_val (Qt_loadRN 32 (hlist gs[2 * k]) rfl (flat_slice _ 32 hlist_length gs (2 * k) (by omega)) (hlist_length _) (by decide)) rfl) rfl ?_
  refine DL_q hns0 rfl (Qt_move (.slice _ _ _) rfl) rfl ?_
  refine DL_q hns0 rfl (Qt_move (.int .i64 _) rfl) rfl ?_
  first
   | refine DL_q hns0 rfl (Qt_add rfl rfl (by omega) (by omega)) rfl ?_
   | refine DL_q hns0 rfl (Qt_addw rfl rfl) rfl ?_
  refine DL_q hns0 rfl (Qt_indexN rfl rfl (by omega) (by omega)) rfl ?_
  refine DL_q hns0 rfl (Qt_val (Qt_loadRN 32 (hlist gs[2 * k + 1]) rfl (flat_slice _ 32 hlist_length gs (2 * k + 1) hk2) (hlist_length _) (by decide)) rfl) rfl ?_
  refine DL_e rfl rfl (Ef_call (pair_c (x := gs[2 * k]) (y := gs[2 * k + 1])) rfl (fun x22 => ⟨(Subs.st inferInstance), ?_⟩))
  refine DL_e rfl rfl (Ef_sliceN (m := ([x22] : List (Vector UInt8 32)).length) [.agg (hlist (x22)).toArray] (([x22]).flatMap fun h : Vector UInt8 32 => hlist h) rfl rfl rfl rfl (by simp [Value.cells]) rfl rfl (fun a23 c23 => ⟨(Subs.st inferInstance), ?_⟩))
  refine DL_e rfl rfl (Ef_appendS (fun h : Vector UInt8 32 => hlist h) (sv := .slice _ _ _) (xv := .slice _ _ _) (xs := hs) (ys := [x22]) hlist_length hlist_one rfl rfl (by simp; omega) rfl rfl (fun a24 c24 => ⟨(Subs.st inferInstance), ?_⟩))
  refine DL_q hns0 rfl (Qt_assign (.slice _ _ _) rfl) rfl ?_
  refine DL_nil ?_
  refine X_block ?_
  refine X_then ?_
  refine T_region ?_
  refine TL_q (Qt_move (.int .i64 _) rfl) rfl ?_
  first
   | refine TL_q (Qt_add rfl rfl (by omega) (by omega)) rfl ?_
   | refine TL_q (Qt_addw rfl rfl) rfl ?_
  rw [show ((2 * k : Nat) : Int) + 2 = ((2 * (k + 1) : Nat) : Int) from by omega]
  refine TL_q (Qt_assign (.int .i64 _) rfl) rfl ?_
  refine TL_nil ?_
  apply X_loop
  case ha => exact (by repeat (first | with_reducible exact agree_refl | refine agree_upd rfl ?_ | refine agree_mix rfl ?_ | refine agree_setAll rfl ?_))
  case hI => exact ⟨k + 1, a24, c24, hs ++ [x22], rfl, rfl, by omega, by simp [hl]⟩
  case hm => exact by show gs.length - ((2 * (k + 1) : Nat) : Int).toNat < gs.length - ((2 * k : Nat) : Int).toNat; omega
  case hH => exact (Subs.st inferInstance)
 ·
  have p9 := h9
  try simp only [decide_eq_true_eq, decide_eq_false_iff_not, Bool.not_eq_true', Bool.not_eq_false', Option.isNone_iff_eq_none, ne_eq, Decidable.not_not, Int.not_lt, Int.not_le] at p9
  have hke : k = gs.length / 2 := by omega
  refine T_exit ?_
  refine X_then_exit ?_
  refine X_loop_exit ?_
  refine X_block_exit ?_
  refine X_then ?_
  refine T_seq ?_
  refine T_region ?_
  refine TL_q (Qt_move (.slice _ _ _) rfl) rfl ?_
  refine TL_q (Qt_assign (.slice _ _ _) rfl) rfl ?_
  refine TL_nil ?_
  refine X_then ?_
  refine T_ret ?_
  exact X_ret (⟨a, c⟩, hs) [_] Try.results106 ⟨rfl, trivial⟩ rfl (fun w hw => (Subs.st inferInstance w hw : St w0 (row (.slice a (hs).length c) 36 32 ((hs).flatMap fun h : Vector UInt8 32 => hlist h) :: H) w).addPure (by show hs.length = _; omega))
end
section
open Go.RowKit Go.Sx
set_option maxRecDepth 100000
set_option linter.unusedSimpArgs false
set_option linter.unusedVariables false
def Dig (v : Vector Int 35) : Prop := ∀ (i : Nat) (hi : i < 35), 0 ≤ v[i] ∧ v[i] ≤ 15
theorem Dig.zero : Dig (Vector.replicate 35 (0 : Int)) := fun i hi => by simp
theorem Dig.set {v : Vector Int 35} (h : Dig v) (i : Nat) (hi : i < 35) {x : Int} (hx : 0 ≤ x ∧ x ≤ 15) : Dig (v.set i x) := fun j hj => by
 by_cases e : i = j
 · subst e; simpa using hx
 · rw [Vector.getElem_set_ne _ _ e]; exact h j hj
theorem and15 {a : Nat} (h : a < 1000) : IntKind.i64.wrap ((BitVec.ofInt IntKind.i64.bits (a : Int) &&& BitVec.ofInt IntKind.i64.bits 15).toNat : Int) = ((a &&& 15 : Nat) : Int) := by
 show IntKind.i64.wrap ((BitVec.ofInt 64 (a : Int) &&& BitVec.ofInt 64 ((15 : Nat) : Int)).toNat : Int) = _
 have hx : a &&& 15 ≤ 15 := Nat.and_le_right
 rw [BitVec.ofInt_natCast, BitVec.ofInt_natCast, BitVec.toNat_and, BitVec.toNat_ofNat, BitVec.toNat_ofNat, Nat.mod_eq_of_lt (by omega), Nat.mod_eq_of_lt (by decide)]
 simp [IntKind.wrap, IntKind.bits, IntKind.signed]; omega
theorem u8_sing (j : Int) : (([.int .u8 (IntKind.u8.wrap j)] : List Value).flatMap fun v => v.cells.toList) = bytesV [u8Of (IntKind.u8.wrap j)] := by
 show [Value.int .u8 (IntKind.u8.wrap j)] = [byteV (u8Of (IntKind.u8.wrap j))]
 rw [byteV_u8Of (wrap_u8_range j).1 (wrap_u8_range j).2]
attribute [local irreducible] sha cutV stepV walkV secretV putFixed
set_option maxHeartbeats 1000000 in
theorem digits_c {w0 : World} {H : List SA} {h : Vector UInt8 32} :
 CT Try.prog w0 (H) 149 [.agg (hlist h).toArray] (α := Vector Int 35) (fun y => .agg (flatV intL y).toArray) (fun y => pu (Dig y) :: H) := by
 refine CT_intro Try.func149 rfl Try.ntmps149 rfl ?_
 refine T_seq ?_
 refine T_region ?_
 refine TL_e rfl (Ef_boxN rfl (fun b1 => ?_))
 refine TL_e rfl (Ef_allocN (fun b2 => ?_))
 rw [zero35]
 refine TL_nil ?_
 refine X_then ?_
 refine T_seq ?_
 refine T_region ?_
 refine TL_e rfl (Ef_allocN (fun b3 => ?_))
 rw [zero35]
 refine TL_nil ?_
 refine X_then ?_
 refine T_seq ?_
 refine T_region ?_
 refine TL_q (Qt_assign (.int .i64 _) rfl) rfl ?_
 refine TL_nil ?_
 refine X_then ?_
 refine T_seq ?_
 refine T_seq ?_
 refine T_region ?_
 refine TL_q (Qt_move (.int .i64 _) rfl) rfl ?_
 refine TL_nil ?_
 refine X_then ?_
 refine T_block ?_
 refine T_loop [4, 5, 7, 8, 9, 10, 11, 12, 13, 14, 15, 16, 17, 18, 19, 20, 21, 22, 23, 24, 25, 26, 27, 28, 29, 30, 31, 32, 33, 34, 35, 36, 37, 38, 39, 40] [7, 4] (fun us H' => ∃ (k : Nat) (lf : Int) (v : Vector Int 35), us = [.int .i64 (k : Int), .int .i64 lf] ∧ blk b3 (.cells (flatV intL v).toArray 253 (0, 0)) :: blk b1 (.cells (hlist h).toArray 36 (0, 0)) :: blk b2 (.cells (flatV intL (Vector.replicate 35 (0 : Int))).toArray 253 (0, 0)) :: H = H' ∧ k ≤ 16 ∧ (0 ≤ lf ∧ lf ≤ 30 * k) ∧ (Dig v)) (fun us => match us with | .int _ i :: _ => 16 - i.toNat | _ => 0) ⟨0, 0, (Vector.replicate 35 (0 : Int)), rfl, rfl, by omega, by omega, Dig.zero⟩ (Subs.st inferInstance) ?_
 rintro τ0 _ _  ⟨k, lf, v, rfl, rfl, hk0, hlf, hd⟩ _
 refine T_seq ?_
 refine T_region ?_
 refine TL_q (Qt_lss rfl rfl) rfl ?_
 refine TL_nil ?_
 refine X_then ?_
 refine T_seq ?_
 refine T_cond rfl (fun h8 => ?_) (fun h8 => ?_)
 ·
  have p8 := h8
  try simp only [decide_eq_true_eq, decide_eq_false_iff_not, Bool.not_eq_true', Bool.not_eq_false', Option.isNone_iff_eq_none, ne_eq, Decidable.not_not, Int.not_lt, Int.not_le] at p8
  have hk : k < 16 := by omega
  have hc8 := h[k].toNat_lt
  have hand : h[k].toNat &&& 15 ≤ 15 := Nat.and_le_right
  have hch : CellAt (hlist h).toArray k (.int .u8 (h[k].toNat : Int)) := cellAtH rfl (by omega)
  have hp1 := intV_put v (2 * k) (by omega) ((h[k].toNat / 2 ^ 4 : Nat) : Int)
  have hp2 := intV_put (v.set (2 * k) ((h[k].toNat / 2 ^ 4 : Nat) : Int)) (2 * k + 1) (by omega) ((h[k].toNat &&& 15 : Nat) : Int)
  obtain ⟨v2, hv2⟩ : ∃ v2 : Vector Int 35, v2 = (v.set (2 * k) ((h[k].toNat / 2 ^ 4 : Nat) : Int)).set (2 * k + 1) ((h[k].toNat &&& 15 : Nat) : Int) := ⟨_, rfl⟩
  rw [← hv2] at hp2
  have hd2 : Dig v2 := by rw [hv2]; exact (hd.set _ _ ⟨by omega, by omega⟩).set _ _ ⟨by omega, by omega⟩
  have hq1 := hd2 (2 * k) (by omega)
  have hq2 := hd2 (2 * k + 1) (by omega)
  have hg1 : CellAt (flatV intL v2).toArray (2 * k) (.int .i64 v2[2 * k]) := ⟨intV_get v2 _ (by omega)⟩
  have hg2 : CellAt (flatV intL v2).toArray (2 * k + 1) (.int .i64 v2[2 * k + 1]) := ⟨intV_get v2 _ (by omega)⟩
  refine T_skip ?_
  refine X_then ?_
  refine T_seq ?_
  refine T_block ?_
  refine T_seq ?_
  refine T_region ?_
  refine TL_q (Qt_move (.int .i64 _) rfl) rfl ?_
  refine TL_q (Qt_assign (.int .i64 _) rfl) rfl ?_
  refine TL_nil ?_
  refine X_then ?_
  refine T_seq ?_
  refine T_draw (blk b1 (.cells (hlist h).toArray 36 (0, 0)) :: H) [(0, true), (1, true), (2, true), (3, true), (4, true), (5, true), (6, true), (7, true), (8, true), (9, true), (10, true), (11, true), (12, true), (13, true), (14, true), (15, true), (16, false), (17, true), (18, false)] (by kernel_rfl) (by kernel_rfl) rfl (by kernel_rfl) (Subs.st inferInstance) (fun hns0 => ?_)
  refine DL_q hns0 rfl (Qt_move (.int .i64 _) rfl) rfl ?_
  first
   | refine DL_q hns0 rfl (Qt_mul rfl rfl (by omega) (by omega)) rfl ?_
   | refine DL_q hns0 rfl (Qt_mulw rfl rfl) rfl ?_
  rw [show (2 : Int) * (k : Int) = ((2 * k : Nat) : Int) from by omega]
  refine DL_q hns0 rfl (Qt_move (.int .i64 _) rfl) rfl ?_
  first
   | refine DL_q hns0 rfl (Qt_mul rfl rfl (by omega) (by omega)) rfl ?_
   | refine DL_q hns0 rfl (Qt_mulw rfl rfl) rfl ?_
  first
   | refine DL_q hns0 rfl (Qt_add rfl rfl (by omega) (by omega)) rfl ?_
   | refine DL_q hns0 rfl (Qt_addw rfl rfl) rfl ?_
  rw [show (2 : Int) * (k : Int) + 1 = ((2 * k + 1 : Nat) : Int) from by omega]
  refine DL_q hns0 rfl (Qt_move (.int .i64 _) rfl) rfl ?_
  refine DL_q hns0 rfl (Qt_indexAddr_arrC (sz := 1) k k rfl rfl Try.underlying36 rfl rfl (by rw [Nat.blt_eq]; omega) (by omega)) rfl ?_
  refine DL_q hns0 rfl (Qt_load1 rfl) rfl ?_
  refine DL_q hns0 rfl (Qt_shrN 4 rfl rfl (by decide)) rfl ?_
  refine DL_q hns0 rfl (Qt_conv_i64 rfl rfl Try.underlying3 (by omega) (by omega)) rfl ?_
  refine DL_q hns0 rfl (Qt_move (.int .i64 _) rfl) rfl ?_
  refine DL_q hns0 rfl (Qt_indexAddr_arrC (sz := 1) k k rfl rfl Try.underlying36 rfl rfl (by rw [Nat.blt_eq]; omega) (by omega)) rfl ?_
  refine DL_q hns0 rfl (Qt_load1 rfl) rfl ?_
  refine DL_q hns0 rfl (Qt_andN (b := 15) rfl rfl rfl (by show _ < 2 ^ 8; omega) (by decide)) rfl ?_
  refine DL_q hns0 rfl (Qt_conv_i64 rfl rfl Try.underlying3 (by omega) (by omega)) rfl ?_
  refine DL_q hns0 rfl (Qt_indexAddr_arrC (sz := 1) (2 * k) (2 * k) rfl rfl Try.underlying253 rfl rfl (by rw [Nat.blt_eq]; omega) (by omega)) rfl ?_
  refine DL_n rfl (Ef_store1 (.int .i64 _) rfl rfl (⟨(Subs.st inferInstance), ?_⟩))
  refine DL_q hns0 rfl (Qt_indexAddr_arrC (sz := 1) (2 * k + 1) (2 * k + 1) rfl rfl Try.underlying253 rfl rfl (by rw [Nat.blt_eq]; omega) (by omega)) rfl ?_
  refine DL_n rfl (Ef_store1 (.int .i64 _) rfl rfl (⟨(Subs.st inferInstance), ?_⟩))
  refine DL_nil ?_
  refine X_then ?_
  refine T_draw (blk b3 (.cells (flatV intL v2).toArray 253 (0, 0)) :: H) [(0, true), (1, true), (2, true), (3, true), (4, true), (5, true), (6, true), (7, true), (8, true), (9, true), (10, true), (11, true), (12, true), (13, true)] (by kernel_rfl) (by kernel_rfl) rfl (by kernel_rfl) (Subs.st inferInstance) (fun hns1 => ?_)
  refine DL_q hns1 rfl (Qt_move (.int .i64 _) rfl) rfl ?_
  refine DL_q hns1 rfl (Qt_move (.int .i64 _) rfl) rfl ?_
  first
   | refine DL_q hns1 rfl (Qt_mul rfl rfl (by omega) (by omega)) rfl ?_
   | refine DL_q hns1 rfl (Qt_mulw rfl rfl) rfl ?_
  rw [show (2 : Int) * (k : Int) = ((2 * k : Nat) : Int) from by omega]
  refine DL_q hns1 rfl (Qt_indexAddr_arrC (sz := 1) (2 * k) (2 * k) rfl rfl Try.underlying253 rfl rfl (by rw [Nat.blt_eq]; omega) (by omega)) rfl ?_
  refine DL_q hns1 rfl (Qt_load1 rfl) rfl ?_
  first
   | refine DL_q hns1 rfl (Qt_sub rfl rfl (by omega) (by omega)) rfl ?_
   | refine DL_q hns1 rfl (Qt_subw rfl rfl) rfl ?_
  refine DL_q hns1 rfl (Qt_move (.int .i64 _) rfl) rfl ?_
  first
   | refine DL_q hns1 rfl (Qt_mul rfl rfl (by omega) (by omega)) rfl ?_
   | refine DL_q hns1 rfl (Qt_mulw rfl rfl) rfl ?_
  first
   | refine DL_q hns1 rfl (Qt_add rfl rfl (by omega) (by omega)) rfl ?_
   | refine DL_q hns1 rfl (Qt_addw rfl rfl) rfl ?_
  rw [show (2 : Int) * (k : Int) + 1 = ((2 * k + 1 : Nat) : Int) from by omega]
  refine DL_q hns1 rfl (Qt_indexAddr_arrC (sz := 1) (2 * k + 1) (2 * k + 1) rfl rfl Try.underlying253 rfl rfl (by rw [Nat.blt_eq]; omega) (by omega)) rfl ?_
  refine DL_q hns1 rfl (Qt_load1 rfl) rfl ?_
  first
   | refine DL_q hns1 rfl (Qt_sub rfl rfl (by omega) (by omega)) rfl ?_
   | refine DL_q hns1 rfl (Qt_subw rfl rfl) rfl ?_
  first
   | refine DL_q hns1 rfl (Qt_add rfl rfl (by omega) (by omega)) rfl ?_
   | refine DL_q hns1 rfl (Qt_addw rfl rfl) rfl ?_
  refine DL_q hns1 rfl (Qt_assign (.int .i64 _) rfl) rfl ?_
  refine DL_nil ?_
  refine X_block ?_
  refine X_then ?_
  refine T_region ?_
  first
   | refine TL_q (Qt_add rfl rfl (by omega) (by omega)) rfl ?_
   | refine TL_q (Qt_addw rfl rfl) rfl ?_
  refine TL_q (Qt_move (.int .i64 _) rfl) rfl ?_
  refine TL_nil ?_
  apply X_loop
  case ha => exact (by repeat (first | with_reducible exact agree_refl | refine agree_upd rfl ?_ | refine agree_mix rfl ?_ | refine agree_setAll rfl ?_))
  case hI => exact ⟨k + 1, _, v2, rfl, rfl, by omega, by omega, hd2⟩
  case hm => exact by show 16 - (k + 1 : Int).toNat < 16 - (k : Int).toNat; omega
  case hH => exact (Subs.st inferInstance)
 ·
  have p8 := h8
  try simp only [decide_eq_true_eq, decide_eq_false_iff_not, Bool.not_eq_true', Bool.not_eq_false', Option.isNone_iff_eq_none, ne_eq, Decidable.not_not, Int.not_lt, Int.not_le] at p8
  obtain ⟨ln, rfl⟩ := Int.eq_ofNat_of_zero_le hlf.1
  refine T_exit ?_
  refine X_then_exit ?_
  refine X_loop_exit ?_
  refine X_block_exit ?_
  refine X_then ?_
  refine T_seq ?_
  refine T_seq ?_
  refine T_region ?_
  refine TL_q (Qt_move (.int .i64 _) rfl) rfl ?_
  refine TL_nil ?_
  refine X_then ?_
  refine T_block ?_
  refine T_unroll (TU_round ?_)
  refine T_seq ?_
  refine T_region ?_
  refine TL_q (Qt_lss rfl rfl) rfl ?_
  refine TL_nil ?_
  refine X_then ?_
  refine T_seq ?_
  refine T_cond_true rfl (by first | rfl | decide) ?_
  refine T_skip ?_
  refine X_then ?_
  refine T_seq ?_
  refine T_block ?_
  refine T_seq ?_
  refine T_region ?_
  refine TL_q (Qt_move (.int .i64 _) rfl) rfl ?_
  refine TL_q (Qt_assign (.int .i64 _) rfl) rfl ?_
  refine TL_nil ?_
  refine X_then ?_
  refine T_region ?_
  refine TL_q (Qt_move (.int .i64 _) rfl) rfl ?_
  first
   | refine TL_q (Qt_add rfl rfl (by omega) (by omega)) rfl ?_
   | refine TL_q (Qt_addw rfl rfl) rfl ?_
  refine TL_q (Qt_move (.int .i64 _) rfl) rfl ?_
  refine TL_q (Qt_move (.int .i64 _) rfl) rfl ?_
  first
   | refine TL_q (Qt_mul rfl rfl (by omega) (by omega)) rfl ?_
   | refine TL_q (Qt_mulw rfl rfl) rfl ?_
  first
   | refine TL_q (Qt_sub rfl rfl (by omega) (by omega)) rfl ?_
   | refine TL_q (Qt_subw rfl rfl) rfl ?_
  refine TL_q (Qt_shrN 8 rfl rfl (by decide)) rfl ?_
  refine TL_q (Qt_val (Qt_and rfl rfl) (congrArg (Value.int .i64) (and15 (by first | omega | (apply Nat.lt_of_le_of_lt (Nat.div_le_self _ _); omega))))) rfl ?_
  have hp32 := intV_put v 32 (by decide) ((ln / 2 ^ 8 &&& 15 : Nat) : Int)
  obtain ⟨v3, hv3⟩ : ∃ u : Vector Int 35, u = v.set 32 ((ln / 2 ^ 8 &&& 15 : Nat) : Int) := ⟨_, rfl⟩
  rw [← hv3] at hp32
  have hd3 : Dig v3 := by rw [hv3]; exact hd.set _ _ ⟨by omega, by have : ln / 2 ^ 8 &&& 15 ≤ 15 := Nat.and_le_right; omega⟩
  refine TL_q (Qt_indexAddr_arrC (sz := 1) 32 32 rfl rfl Try.underlying253 rfl rfl rfl rfl) rfl ?_
  refine TL_n (Ef_store1 (.int .i64 _) rfl rfl (?_))
  refine TL_nil ?_
  refine X_block ?_
  refine X_then ?_
  refine T_region ?_
  first
   | refine TL_q (Qt_add rfl rfl (by omega) (by omega)) rfl ?_
   | refine TL_q (Qt_addw rfl rfl) rfl ?_
  refine TL_q (Qt_move (.int .i64 _) rfl) rfl ?_
  refine TL_nil ?_
  refine X_again (TU_round ?_)
  refine T_seq ?_
  refine T_region ?_
  refine TL_q (Qt_lss rfl rfl) rfl ?_
  refine TL_nil ?_
  refine X_then ?_
  refine T_seq ?_
  refine T_cond_true rfl (by first | rfl | decide) ?_
  refine T_skip ?_
  refine X_then ?_
  refine T_seq ?_
  refine T_block ?_
  refine T_seq ?_
  refine T_region ?_
  refine TL_q (Qt_move (.int .i64 _) rfl) rfl ?_
  refine TL_q (Qt_assign (.int .i64 _) rfl) rfl ?_
  refine TL_nil ?_
  refine X_then ?_
  refine T_region ?_
  refine TL_q (Qt_move (.int .i64 _) rfl) rfl ?_
  first
   | refine TL_q (Qt_add rfl rfl (by omega) (by omega)) rfl ?_
   | refine TL_q (Qt_addw rfl rfl) rfl ?_
  refine TL_q (Qt_move (.int .i64 _) rfl) rfl ?_
  refine TL_q (Qt_move (.int .i64 _) rfl) rfl ?_
  first
   | refine TL_q (Qt_mul rfl rfl (by omega) (by omega)) rfl ?_
   | refine TL_q (Qt_mulw rfl rfl) rfl ?_
  first
   | refine TL_q (Qt_sub rfl rfl (by omega) (by omega)) rfl ?_
   | refine TL_q (Qt_subw rfl rfl) rfl ?_
  refine TL_q (Qt_shrN 4 rfl rfl (by decide)) rfl ?_
  refine TL_q (Qt_val (Qt_and rfl rfl) (congrArg (Value.int .i64) (and15 (by first | omega | (apply Nat.lt_of_le_of_lt (Nat.div_le_self _ _); omega))))) rfl ?_
  have hp33 := intV_put v3 33 (by decide) ((ln / 2 ^ 4 &&& 15 : Nat) : Int)
  obtain ⟨v4, hv4⟩ : ∃ u : Vector Int 35, u = v3.set 33 ((ln / 2 ^ 4 &&& 15 : Nat) : Int) := ⟨_, rfl⟩
  rw [← hv4] at hp33
  have hd4 : Dig v4 := by rw [hv4]; exact hd3.set _ _ ⟨by omega, by have : ln / 2 ^ 4 &&& 15 ≤ 15 := Nat.and_le_right; omega⟩
  refine TL_q (Qt_indexAddr_arrC (sz := 1) 33 33 rfl rfl Try.underlying253 rfl rfl rfl rfl) rfl ?_
  refine TL_n (Ef_store1 (.int .i64 _) rfl rfl (?_))
  refine TL_nil ?_
  refine X_block ?_
  refine X_then ?_
  refine T_region ?_
  first
   | refine TL_q (Qt_add rfl rfl (by omega) (by omega)) rfl ?_
   | refine TL_q (Qt_addw rfl rfl) rfl ?_
  refine TL_q (Qt_move (.int .i64 _) rfl) rfl ?_
  refine TL_nil ?_
  refine X_again (TU_round ?_)
  refine T_seq ?_
  refine T_region ?_
  refine TL_q (Qt_lss rfl rfl) rfl ?_
  refine TL_nil ?_
  refine X_then ?_
  refine T_seq ?_
  refine T_cond_true rfl (by first | rfl | decide) ?_
  refine T_skip ?_
  refine X_then ?_
  refine T_seq ?_
  refine T_block ?_
  refine T_seq ?_
  refine T_region ?_
  refine TL_q (Qt_move (.int .i64 _) rfl) rfl ?_
  refine TL_q (Qt_assign (.int .i64 _) rfl) rfl ?_
  refine TL_nil ?_
  refine X_then ?_
  refine T_region ?_
  refine TL_q (Qt_move (.int .i64 _) rfl) rfl ?_
  first
   | refine TL_q (Qt_add rfl rfl (by omega) (by omega)) rfl ?_
   | refine TL_q (Qt_addw rfl rfl) rfl ?_
  refine TL_q (Qt_move (.int .i64 _) rfl) rfl ?_
  refine TL_q (Qt_move (.int .i64 _) rfl) rfl ?_
  first
   | refine TL_q (Qt_mul rfl rfl (by omega) (by omega)) rfl ?_
   | refine TL_q (Qt_mulw rfl rfl) rfl ?_
  first
   | refine TL_q (Qt_sub rfl rfl (by omega) (by omega)) rfl ?_
   | refine TL_q (Qt_subw rfl rfl) rfl ?_
  refine TL_q (Qt_shrN 0 rfl rfl (by decide)) rfl ?_
  refine TL_q (Qt_val (Qt_and rfl rfl) (congrArg (Value.int .i64) (and15 (by first | omega | (apply Nat.lt_of_le_of_lt (Nat.div_le_self _ _); omega))))) rfl ?_
  have hp34 := intV_put v4 34 (by decide) ((ln / 2 ^ 0 &&& 15 : Nat) : Int)
  obtain ⟨v5, hv5⟩ : ∃ u : Vector Int 35, u = v4.set 34 ((ln / 2 ^ 0 &&& 15 : Nat) : Int) := ⟨_, rfl⟩
  rw [← hv5] at hp34
  have hd5 : Dig v5 := by rw [hv5]; exact hd4.set _ _ ⟨by omega, by have : ln / 2 ^ 0 &&& 15 ≤ 15 := Nat.and_le_right; omega⟩
  refine TL_q (Qt_indexAddr_arrC (sz := 1) 34 34 rfl rfl Try.underlying253 rfl rfl rfl rfl) rfl ?_
  refine TL_n (Ef_store1 (.int .i64 _) rfl rfl (?_))
  refine TL_nil ?_
  refine X_block ?_
  refine X_then ?_
  refine T_region ?_
  first
   | refine TL_q (Qt_add rfl rfl (by omega) (by omega)) rfl ?_
   | refine TL_q (Qt_addw rfl rfl) rfl ?_
  refine TL_q (Qt_move (.int .i64 _) rfl) rfl ?_
  refine TL_nil ?_
  refine X_again (TU_round ?_)
  refine T_seq ?_
  refine T_region ?_
  refine TL_q (Qt_lss rfl rfl) rfl ?_
  refine TL_nil ?_
  refine X_then ?_
  refine T_seq ?_
  refine T_cond_false rfl (by first | rfl | decide) ?_
  refine T_exit ?_
  refine X_then_exit ?_
  refine X_again_exit ?_
  refine X_block_exit ?_
  refine X_then ?_
  refine T_seq ?_
  refine T_region ?_
  refine TL_q (Qt_loadN rfl rfl) rfl ?_
  refine TL_n (Ef_storeN rfl rfl (?_))
  refine TL_nil ?_
  refine X_then ?_
  refine T_ret ?_
  exact X_ret v5 [_] Try.results149 ⟨⟨_, rfl, res_cellN rfl⟩, trivial⟩ rfl (fun w hw => (Subs.st inferInstance w hw : St w0 H w).addPure hd5)
set_option maxHeartbeats 1000000 in
theorem otsSign_c {w0 : World} {H : List SA} {seed : Vector UInt8 32} {ix : Int} {ta : Option Addr} {tl : List UInt8} {tc : Nat} [hr : RdB w0 H (.slice ta tl.length tc) tl] (htl : tl.length ≤ 4294967000) :
 CT Try.prog w0 (H) 104 [.agg (hlist seed).toArray, .int .i64 ix, .slice ta tl.length tc] (α := AC × List UInt8) (fun y => .slice y.1.a y.2.length y.1.c) (fun y => pu (y.2.length = 560) :: row (.slice y.1.a (y.2).length y.1.c) 5 1 (bytesV (y.2)) :: H) := by
 refine CT_intro Try.func104 rfl Try.ntmps104 rfl ?_
 refine T_seq ?_
 refine T_region ?_
 refine TL_e rfl (Ef_boxN rfl (fun b3 => ?_))
 refine TL_q (Qt_assign (.slice _ _ _) rfl) rfl ?_
 refine TL_nil ?_
 refine X_then ?_
 refine T_seq ?_
 refine T_region ?_
 refine TL_q (Qt_assign (.slice _ _ _) rfl) rfl ?_
 refine TL_nil ?_
 refine X_then ?_
 refine T_seq ?_
 refine T_seq ?_
 refine T_region ?_
 refine TL_q (Qt_move (.slice _ _ _) rfl) rfl ?_
 refine TL_e rfl (Ef_call (sum_c htl) rfl (fun x12 => ?_))
 refine TL_e rfl (Ef_call (digits_c (h := sha tl)) rfl (fun x13 => ?_))
 refine TL_pure (fun h13 => ?_)
 refine TL_q (Qt_move (.int .i64 _) rfl) rfl ?_
 refine TL_nil ?_
 refine X_then ?_
 refine T_block ?_
 refine T_loop [7, 8, 9, 10, 14, 15, 16, 17, 18, 19, 20, 21, 22, 23, 24, 25, 26, 27, 28] [14, 7] (fun us H' => ∃ (k : Nat) (a : Option Addr) (c : Nat) (l : List UInt8), us = [.int .i64 (k : Int), .slice a l.length c] ∧ row (.slice a (l).length c) 5 1 (bytesV (l)) :: blk b3 (.cells (hlist seed).toArray 36 (0, 0)) :: H = H' ∧ k ≤ 35 ∧ (l.length = 16 * k)) (fun us => match us with | .int _ i :: _ => 35 - i.toNat | _ => 0) ⟨0, none, 0, [], rfl, rfl, by omega, rfl⟩ (fun w hw => (Subs.st inferInstance w hw : St w0 (blk b3 (.cells (hlist seed).toArray 36 (0, 0)) :: H) w).addNilB 5) ?_
 rintro τ0 _ _  ⟨k, a, c, l, rfl, rfl, hk0, hl⟩ _
 refine T_seq ?_
 refine T_region ?_
 refine TL_q (Qt_lss rfl rfl) rfl ?_
 refine TL_nil ?_
 refine X_then ?_
 refine T_seq ?_
 refine T_cond rfl (fun h15 => ?_) (fun h15 => ?_)
 ·
  have p15 := h15
  try simp only [decide_eq_true_eq, decide_eq_false_iff_not, Bool.not_eq_true', Bool.not_eq_false', Option.isNone_iff_eq_none, ne_eq, Decidable.not_not, Int.not_lt, Int.not_le] at p15
  have hk : k < 35 := by omega
  refine T_skip ?_
  refine X_then ?_
  refine T_seq ?_
  refine T_block ?_
  refine T_seq ?_
  refine T_region ?_
  refine TL_q (Qt_move (.int .i64 _) rfl) rfl ?_
  refine TL_q (Qt_index (.int .i64 x13[k]) rfl rfl Try.underlying253 (by omega) (by omega) (intV_get x13 k hk)) rfl ?_
  obtain ⟨dn, hdn⟩ := Int.eq_ofNat_of_zero_le (h13 k hk).1
  have hdl := (h13 k hk).2
  rw [hdn]
  refine TL_q (Qt_assign (.int .i64 _) rfl) rfl ?_
  refine TL_q (Qt_assign (.int .i64 _) rfl) rfl ?_
  refine TL_nil ?_
  refine X_then ?_
  refine T_seq ?_
  refine T_region ?_
  refine TL_q (Qt_loadN rfl rfl) rfl ?_
  refine TL_q (Qt_move (.int .i64 _) rfl) rfl ?_
  refine TL_q (Qt_move (.int .i64 _) rfl) rfl ?_
  refine TL_e rfl (Ef_call (secret_c (seed := seed) (ix := ix) (j := (k : Int))) rfl (fun x21 => ?_))
  refine TL_q (Qt_move (.int .i64 _) rfl) rfl ?_
  refine TL_q (Qt_move (.int .i64 _) rfl) rfl ?_
  refine TL_e rfl (Ef_call (walk_c (p := secretV seed ix k) (j := (k : Int)) (fr := 0) (to := dn) (by omega)) rfl (fun x24 => ?_))
  refine TL_e rfl (Ef_allocN (fun b10 => ?_))
  refine TL_n (Ef_storeN rfl rfl (?_))
  refine TL_nil ?_
  refine X_then ?_
  refine T_region ?_
  refine TL_q (Qt_move (.slice _ _ _) rfl) rfl ?_
  refine TL_q (Qt_slice_arr rfl Try.underlying256 rfl rfl) rfl ?_
  refine TL_e rfl (Ef_appendB (sv := .slice _ _ _) (xv := .slice _ _ _) (hn := RdB.hash ((walkV (secretV seed ix k) k 0 dn)) inferInstance inferInstance (by decide)) rfl rfl (by simp; omega) rfl (fun a27 c27 => ?_))
  refine TL_q (Qt_assign (.slice _ _ _) rfl) rfl ?_
  refine TL_nil ?_
  refine X_block ?_
  refine X_then ?_
  refine T_region ?_
  first
   | refine TL_q (Qt_add rfl rfl (by omega) (by omega)) rfl ?_
   | refine TL_q (Qt_addw rfl rfl) rfl ?_
  refine TL_q (Qt_move (.int .i64 _) rfl) rfl ?_
  refine TL_nil ?_
  apply X_loop
  case ha => exact (by repeat (first | with_reducible exact agree_refl | refine agree_upd rfl ?_ | refine agree_mix rfl ?_ | refine agree_setAll rfl ?_))
  case hI => exact ⟨k + 1, a27, c27, l ++ (walkV (secretV seed ix k) k 0 dn).toList, rfl, rfl, by omega, by simp [hl]; omega⟩
  case hm => exact by show 35 - (k + 1 : Int).toNat < 35 - (k : Int).toNat; omega
  case hH => exact (Subs.st inferInstance)
 ·
  have p15 := h15
  try simp only [decide_eq_true_eq, decide_eq_false_iff_not, Bool.not_eq_true', Bool.not_eq_false', Option.isNone_iff_eq_none, ne_eq, Decidable.not_not, Int.not_lt, Int.not_le] at p15
  have hk35 : k = 35 := by omega
  refine T_exit ?_
  refine X_then_exit ?_
  refine X_loop_exit ?_
  refine X_block_exit ?_
  refine X_then ?_
  refine T_seq ?_
  refine T_region ?_
  refine TL_q (Qt_move (.slice _ _ _) rfl) rfl ?_
  refine TL_q (Qt_assign (.slice _ _ _) rfl) rfl ?_
  refine TL_nil ?_
  refine X_then ?_
  refine T_ret ?_
  exact X_ret (⟨a, c⟩, l) [_] Try.results104 ⟨rfl, trivial⟩ rfl (fun w hw => (Subs.st inferInstance w hw : St w0 (row (.slice a (l).length c) 5 1 (bytesV (l)) :: H) w).addPure (by show l.length = 560; omega))
set_option maxHeartbeats 1000000 in
theorem sign_c {w0 : World} {H : List SA} {seed : Vector UInt8 32} {n : Nat} (hn : n < 8) {ta : Option Addr} {tl : List UInt8} {tc : Nat} [hr : RdB w0 H (.slice ta tl.length tc) tl] (htl : tl.length ≤ 4294967000) :
 CT Try.prog w0 (H) 63 [.agg (hlist seed).toArray, .int .i64 (n : Int), .slice ta tl.length tc] (α := AC × List UInt8) (fun y => .tuple #[.slice y.1.a y.2.length y.1.c, .int .i64 0]) (fun y => pu (y.2.length = 657) :: row (.slice y.1.a (y.2).length y.1.c) 5 1 (bytesV (y.2)) :: H) := by
 refine CT_intro Try.func63 rfl Try.ntmps63 rfl ?_
 refine T_seq ?_
 refine T_region ?_
 refine TL_e rfl (Ef_boxN rfl (fun b3 => ?_))
 refine TL_q (Qt_assign (.slice _ _ _) rfl) rfl ?_
 refine TL_q (Qt_assign (.int .i64 _) rfl) rfl ?_
 refine TL_nil ?_
 refine X_then ?_
 refine T_seq ?_
 refine T_seq ?_
 refine T_region ?_
 refine TL_q (Qt_move (.int .i64 _) rfl) rfl ?_
 refine TL_q (Qt_lss rfl rfl) rfl ?_
 refine TL_q (Qt_move (.bool _) rfl) rfl ?_
 refine TL_split 14 rfl (fun h14 => ?_) (fun h14 => ?_)
 ·
  have p14 := h14
  try simp only [decide_eq_true_eq, decide_eq_false_iff_not, Bool.not_eq_true', Bool.not_eq_false', Option.isNone_iff_eq_none, ne_eq, Decidable.not_not, Int.not_lt, Int.not_le] at p14
  exact absurd h14 (by simp)
 ·
  have p14 := h14
  try simp only [decide_eq_true_eq, decide_eq_false_iff_not, Bool.not_eq_true', Bool.not_eq_false', Option.isNone_iff_eq_none, ne_eq, Decidable.not_not, Int.not_lt, Int.not_le] at p14
  refine TL_take rfl rfl h14 ?_
  refine TL_q (Qt_move (.int .i64 _) rfl) rfl ?_
  refine TL_take rfl rfl h14 ?_
  refine TL_q (Qt_geq rfl rfl) rfl ?_
  refine TL_q (Qt_pick_f (.bool _) rfl h14 rfl) rfl ?_
  refine TL_nil ?_
  refine X_then ?_
  refine T_cond rfl (fun h17 => ?_) (fun h17 => ?_)
  ·
   have p17 := h17
   try simp only [decide_eq_true_eq, decide_eq_false_iff_not, Bool.not_eq_true', Bool.not_eq_false', Option.isNone_iff_eq_none, ne_eq, Decidable.not_not, Int.not_lt, Int.not_le] at p17
   exact absurd h17 (by simp; omega)
  ·
   have p17 := h17
   try simp only [decide_eq_true_eq, decide_eq_false_iff_not, Bool.not_eq_true', Bool.not_eq_false', Option.isNone_iff_eq_none, ne_eq, Decidable.not_not, Int.not_lt, Int.not_le] at p17
   refine T_skip ?_
   refine X_then ?_
   refine T_seq ?_
   refine T_region ?_
   refine TL_q (Qt_move (.int .i64 _) rfl) rfl ?_
   refine TL_q (Qt_conv rfl rfl Try.underlying5) rfl ?_
   refine TL_e rfl (Ef_sliceN (m := ([u8Of (IntKind.u8.wrap (n : Int))] : List UInt8).length) [.int .u8 (IntKind.u8.wrap (n : Int))] (bytesV [u8Of (IntKind.u8.wrap (n : Int))]) rfl rfl rfl (u8_sing n) (by simp [Value.cells]) rfl rfl (fun a20 c20 => ?_))
   refine TL_q (Qt_loadN rfl rfl) rfl ?_
   refine TL_q (Qt_move (.int .i64 _) rfl) rfl ?_
   refine TL_q (Qt_move (.slice _ _ _) rfl) rfl ?_
   refine TL_e rfl (Ef_call (otsSign_c (seed := seed) (ix := (n : Int)) htl) rfl (fun x24 => ?_))
   refine TL_pure (fun h24 => ?_)
   refine TL_e rfl (Ef_appendB (sv := .slice _ _ _) (xv := .slice _ _ _) (l := [u8Of (IntKind.u8.wrap (n : Int))]) (l' := x24.2) rfl rfl (by simp; omega) rfl (fun a25 c25 => ?_))
   refine TL_q (Qt_assign (.slice _ _ _) rfl) rfl ?_
   refine TL_nil ?_
   refine X_then ?_
   refine T_seq ?_
   refine T_region ?_
   refine TL_q (Qt_loadN rfl rfl) rfl ?_
   refine TL_e rfl (Ef_call (leaves_c (seed := seed)) rfl (fun x27 => ?_))
   refine TL_pure (fun h27 => ?_)
   refine TL_q (Qt_assign (.slice _ _ _) rfl) rfl ?_
   refine TL_nil ?_
   refine X_then ?_
   refine T_seq ?_
   refine T_seq ?_
   refine T_region ?_
   refine TL_q (Qt_move (.int .i64 _) rfl) rfl ?_
   refine TL_nil ?_
   refine X_then ?_
   refine T_block ?_
   refine T_unroll (TU_round ?_)
   refine T_seq ?_
   refine T_region ?_
   refine TL_q (Qt_lss rfl rfl) rfl ?_
   refine TL_nil ?_
   refine X_then ?_
   refine T_seq ?_
   refine T_cond_true rfl (by first | rfl | decide) ?_
   refine T_skip ?_
   refine X_then ?_
   refine T_seq ?_
   refine T_block ?_
   refine T_seq ?_
   refine T_region ?_
   refine TL_q (Qt_move (.int .i64 _) rfl) rfl ?_
   refine TL_q (Qt_assign (.int .i64 _) rfl) rfl ?_
   refine TL_nil ?_
   refine X_then ?_
   refine T_seq ?_
   refine T_region ?_
   refine TL_q (Qt_move (.slice _ _ _) rfl) rfl ?_
   refine TL_q (Qt_move (.int .i64 _) rfl) rfl ?_
   refine TL_q (Qt_move (.int .i64 _) rfl) rfl ?_
   refine TL_q (Qt_shrN 0 rfl rfl (by decide)) rfl ?_
   have hx : n / 2 ^ 0 ^^^ 1 < 8 := Nat.xor_lt_two_pow (n := 3) (by omega) (by decide)
   refine TL_q (Qt_val (Qt_xor rfl rfl) (congrArg (Value.int .i64) (xor1 (by omega)))) rfl ?_
   refine TL_q (Qt_indexN rfl rfl (by omega) (by omega)) rfl ?_
   refine TL_q (Qt_val (Qt_loadRN 32 (hlist x27.2[n / 2 ^ 0 ^^^ 1]) rfl (flat_slice _ 32 hlist_length x27.2 (n / 2 ^ 0 ^^^ 1) (by omega)) (hlist_length _) (by decide)) rfl) rfl ?_
   refine TL_e rfl (Ef_allocN (fun b11 => ?_))
   refine TL_n (Ef_storeN rfl rfl (?_))
   refine TL_nil ?_
   refine X_then ?_
   refine T_seq ?_
   refine T_region ?_
   refine TL_q (Qt_move (.slice _ _ _) rfl) rfl ?_
   refine TL_q (Qt_slice_arr rfl Try.underlying36 rfl rfl) rfl ?_
   refine TL_e rfl (Ef_appendB (sv := .slice _ _ _) (xv := .slice _ _ _) (hn := RdB.hash (x27.2[n / 2 ^ 0 ^^^ 1]) inferInstance inferInstance (by decide)) (l := [u8Of (IntKind.u8.wrap (n : Int))] ++ x24.2) rfl rfl (by simp; omega) rfl (fun a40 c40 => ?_))
   obtain ⟨l0, hl0⟩ : ∃ l : List UInt8, l = ([u8Of (IntKind.u8.wrap (n : Int))] ++ x24.2) ++ x27.2[n / 2 ^ 0 ^^^ 1].toList := ⟨_, rfl⟩
   rw [← hl0]
   have hn0 := congrArg List.length hl0
   simp only [List.length_append, List.length_singleton, Vector.length_toList] at hn0
   refine TL_q (Qt_assign (.slice _ _ _) rfl) rfl ?_
   refine TL_nil ?_
   refine X_then ?_
   refine T_region ?_
   refine TL_q (Qt_move (.slice _ _ _) rfl) rfl ?_
   refine TL_e rfl (Ef_call (up_c (gs := x27.2) (by omega)) rfl (fun x42 => ?_))
   refine TL_pure (fun h42 => ?_)
   refine TL_q (Qt_assign (.slice _ _ _) rfl) rfl ?_
   refine TL_nil ?_
   refine X_block ?_
   refine X_then ?_
   refine T_region ?_
   first
    | refine TL_q (Qt_add rfl rfl (by omega) (by omega)) rfl ?_
    | refine TL_q (Qt_addw rfl rfl) rfl ?_
   refine TL_q (Qt_move (.int .i64 _) rfl) rfl ?_
   refine TL_nil ?_
   refine X_again (TU_round ?_)
   refine T_seq ?_
   refine T_region ?_
   refine TL_q (Qt_lss rfl rfl) rfl ?_
   refine TL_nil ?_
   refine X_then ?_
   refine T_seq ?_
   refine T_cond_true rfl (by first | rfl | decide) ?_
   refine T_skip ?_
   refine X_then ?_
   refine T_seq ?_
   refine T_block ?_
   refine T_seq ?_
   refine T_region ?_
   refine TL_q (Qt_move (.int .i64 _) rfl) rfl ?_
   refine TL_q (Qt_assign (.int .i64 _) rfl) rfl ?_
   refine TL_nil ?_
   refine X_then ?_
   refine T_seq ?_
   refine T_region ?_
   refine TL_q (Qt_move (.slice _ _ _) rfl) rfl ?_
   refine TL_q (Qt_move (.int .i64 _) rfl) rfl ?_
   refine TL_q (Qt_move (.int .i64 _) rfl) rfl ?_
   refine TL_q (Qt_shrN 1 rfl rfl (by decide)) rfl ?_
   have hx : n / 2 ^ 1 ^^^ 1 < 4 := Nat.xor_lt_two_pow (n := 2) (by omega) (by decide)
   refine TL_q (Qt_val (Qt_xor rfl rfl) (congrArg (Value.int .i64) (xor1 (by omega)))) rfl ?_
   refine TL_q (Qt_indexN rfl rfl (by omega) (by omega)) rfl ?_
   refine TL_q (Qt_val (Qt_loadRN 32 (hlist x42.2[n / 2 ^ 1 ^^^ 1]) rfl (flat_slice _ 32 hlist_length x42.2 (n / 2 ^ 1 ^^^ 1) (by omega)) (hlist_length _) (by decide)) rfl) rfl ?_
   refine TL_e rfl (Ef_allocN (fun b11 => ?_))
   refine TL_n (Ef_storeN rfl rfl (?_))
   refine TL_nil ?_
   refine X_then ?_
   refine T_seq ?_
   refine T_region ?_
   refine TL_q (Qt_move (.slice _ _ _) rfl) rfl ?_
   refine TL_q (Qt_slice_arr rfl Try.underlying36 rfl rfl) rfl ?_
   refine TL_e rfl (Ef_appendB (sv := .slice _ _ _) (xv := .slice _ _ _) (hn := RdB.hash (x42.2[n / 2 ^ 1 ^^^ 1]) inferInstance inferInstance (by decide)) (l := l0) rfl rfl (by simp; omega) rfl (fun a40 c40 => ?_))
   obtain ⟨l1, hl1⟩ : ∃ l : List UInt8, l = l0 ++ x42.2[n / 2 ^ 1 ^^^ 1].toList := ⟨_, rfl⟩
   rw [← hl1]
   have hn1 := congrArg List.length hl1
   simp only [List.length_append, List.length_singleton, Vector.length_toList] at hn1
   refine TL_q (Qt_assign (.slice _ _ _) rfl) rfl ?_
   refine TL_nil ?_
   refine X_then ?_
   refine T_region ?_
   refine TL_q (Qt_move (.slice _ _ _) rfl) rfl ?_
   refine TL_e rfl (Ef_call (up_c (gs := x42.2) (by omega)) rfl (fun x42 => ?_))
   refine TL_pure (fun h42 => ?_)
   refine TL_q (Qt_assign (.slice _ _ _) rfl) rfl ?_
   refine TL_nil ?_
   refine X_block ?_
   refine X_then ?_
   refine T_region ?_
   first
    | refine TL_q (Qt_add rfl rfl (by omega) (by omega)) rfl ?_
    | refine TL_q (Qt_addw rfl rfl) rfl ?_
   refine TL_q (Qt_move (.int .i64 _) rfl) rfl ?_
   refine TL_nil ?_
   refine X_again (TU_round ?_)
   refine T_seq ?_
   refine T_region ?_
   refine TL_q (Qt_lss rfl rfl) rfl ?_
   refine TL_nil ?_
   refine X_then ?_
   refine T_seq ?_
   refine T_cond_true rfl (by first | rfl | decide) ?_
   refine T_skip ?_
   refine X_then ?_
   refine T_seq ?_
   refine T_block ?_
   refine T_seq ?_
   refine T_region ?_
   refine TL_q (Qt_move (.int .i64 _) rfl) rfl ?_
   refine TL_q (Qt_assign (.int .i64 _) rfl) rfl ?_
   refine TL_nil ?_
   refine X_then ?_
   refine T_seq ?_
   refine T_region ?_
   refine TL_q (Qt_move (.slice _ _ _) rfl) rfl ?_
   refine TL_q (Qt_move (.int .i64 _) rfl) rfl ?_
   refine TL_q (Qt_move (.int .i64 _) rfl) rfl ?_
   refine TL_q (Qt_shrN 2 rfl rfl (by decide)) rfl ?_
   have hx : n / 2 ^ 2 ^^^ 1 < 2 := Nat.xor_lt_two_pow (n := 1) (by omega) (by decide)
   refine TL_q (Qt_val (Qt_xor rfl rfl) (congrArg (Value.int .i64) (xor1 (by omega)))) rfl ?_
   refine TL_q (Qt_indexN rfl rfl (by omega) (by omega)) rfl ?_
   refine TL_q (Qt_val (Qt_loadRN 32 (hlist x42.2[n / 2 ^ 2 ^^^ 1]) rfl (flat_slice _ 32 hlist_length x42.2 (n / 2 ^ 2 ^^^ 1) (by omega)) (hlist_length _) (by decide)) rfl) rfl ?_
   refine TL_e rfl (Ef_allocN (fun b11 => ?_))
   refine TL_n (Ef_storeN rfl rfl (?_))
   refine TL_nil ?_
   refine X_then ?_
   refine T_seq ?_
   refine T_region ?_
   refine TL_q (Qt_move (.slice _ _ _) rfl) rfl ?_
   refine TL_q (Qt_slice_arr rfl Try.underlying36 rfl rfl) rfl ?_
   refine TL_e rfl (Ef_appendB (sv := .slice _ _ _) (xv := .slice _ _ _) (hn := RdB.hash (x42.2[n / 2 ^ 2 ^^^ 1]) inferInstance inferInstance (by decide)) (l := l1) rfl rfl (by simp; omega) rfl (fun a40 c40 => ?_))
   obtain ⟨l2, hl2⟩ : ∃ l : List UInt8, l = l1 ++ x42.2[n / 2 ^ 2 ^^^ 1].toList := ⟨_, rfl⟩
   rw [← hl2]
   have hn2 := congrArg List.length hl2
   simp only [List.length_append, List.length_singleton, Vector.length_toList] at hn2
   refine TL_q (Qt_assign (.slice _ _ _) rfl) rfl ?_
   refine TL_nil ?_
   refine X_then ?_
   refine T_region ?_
   refine TL_q (Qt_move (.slice _ _ _) rfl) rfl ?_
   refine TL_e rfl (Ef_call (up_c (gs := x42.2) (by omega)) rfl (fun x42 => ?_))
   refine TL_pure (fun h42 => ?_)
   refine TL_q (Qt_assign (.slice _ _ _) rfl) rfl ?_
   refine TL_nil ?_
   refine X_block ?_
   refine X_then ?_
   refine T_region ?_
   first
    | refine TL_q (Qt_add rfl rfl (by omega) (by omega)) rfl ?_
    | refine TL_q (Qt_addw rfl rfl) rfl ?_
   refine TL_q (Qt_move (.int .i64 _) rfl) rfl ?_
   refine TL_nil ?_
   refine X_again (TU_round ?_)
   refine T_seq ?_
   refine T_region ?_
   refine TL_q (Qt_lss rfl rfl) rfl ?_
   refine TL_nil ?_
   refine X_then ?_
   refine T_seq ?_
   refine T_cond_false rfl (by first | rfl | decide) ?_
   refine T_exit ?_
   refine X_then_exit ?_
   refine X_again_exit ?_
   refine X_block_exit ?_
   refine X_then ?_
   refine T_seq ?_
   refine T_region ?_
   refine TL_q (Qt_move (.slice _ _ _) rfl) rfl ?_
   refine TL_q (Qt_assign (.slice _ _ _) rfl) rfl ?_
   refine TL_q (Qt_assign (.int .i64 _) rfl) rfl ?_
   refine TL_nil ?_
   refine X_then ?_
   refine T_ret ?_
   exact X_ret (⟨a40, c40⟩, l2) [_, _] Try.results63 ⟨rfl, rfl, trivial⟩ rfl (fun w hw => (Subs.st inferInstance w hw : St w0 (row (.slice a40 (l2).length c40) 5 1 (bytesV (l2)) :: H) w).addPure (by show l2.length = 657; omega))
end
section
open Go.RowKit Go.Sx
set_option maxRecDepth 100000
set_option linter.unusedSimpArgs false
set_option linter.unusedVariables false
theorem eqB2 {t : TypeId} {x y : Value} {b : Bool} [h : EqB Try.prog t x y b] (d : Nat) (w : World) : (Op.equalIn (d + 2) t x y).run Try.prog w = .ok b w := h.eq d w
theorem resEq2 {x y : ResV} (d : Nat) (w : World) : (Op.equalIn (d + 3) 29 (.agg x.cells) (.agg y.cells)).run Try.prog w = .ok (decide (x = y)) w := by
 rw [run_equalIn_struct w (d + 2) 29 _ _ (by kernel_rfl) (by kernel_rfl)]
 simp only [Program.fieldsOf, Try.underlying29]
 simp only [Op.eqFields, ne_eq, Sem.run_bind, Sem.run_ite, Sem.run_pure, Result.andThen_ok, part1, partN, eqB2]
 rw [show decide (x = y) = (decide (x.oK = y.oK) && (decide (x.n = y.n) && true)) from by rw [Bool.eq_iff_iff]; simp [ResV.ext_iff']]
 try simp only [String.reduceEq, not_false_eq_true, if_true, Result.andThen_ok]
 cases decide (x.oK = y.oK) <;> cases decide (x.n = y.n) <;> rfl
theorem ReplyV.ext_iff' (x y : ReplyV) : x = y ↔ x.client = y.client ∧ x.seq = y.seq ∧ x.slot = y.slot ∧ x.res = y.res := by cases x; cases y; simp
instance jcd : DecidableEq ReplyV := fun x y => decidable_of_iff _ (ReplyV.ext_iff' x y).symm
instance jce {x y : ReplyV} : EqV Try.prog 31 (.agg x.cells) (.agg y.cells) (decide (x = y)) := ⟨fun d w => by
 rw [run_equalIn_struct w (d + 3) 31 _ _ (by kernel_rfl) (by kernel_rfl)]
 simp only [Program.fieldsOf, Try.underlying31]
 simp only [Op.eqFields, ne_eq, Sem.run_bind, Sem.run_ite, Sem.run_pure, Result.andThen_ok, part1, partN, eqB_run, resEq2]
 rw [show decide (x = y) = (decide (x.client = y.client) && (decide (x.seq = y.seq) && (decide (x.slot = y.slot) && (decide (x.res = y.res) && true)))) from by rw [Bool.eq_iff_iff]; simp [ReplyV.ext_iff']]
 try simp only [String.reduceEq, not_false_eq_true, if_true, Result.andThen_ok]
 cases decide (x.client = y.client) <;> cases decide (x.seq = y.seq) <;> cases decide (x.slot = y.slot) <;> cases decide (x.res = y.res) <;> rfl⟩
@[reducible] def encR (k : ReplyV) : Value := .agg k.cells
def encW (n : Nat) : Value := .int .u16 (n : Int)
theorem int_check (x : Int) (empty : Bool) (w : World) (d : Nat) : (Instr.checkKey empty (d + 1) 3 (.int .i64 x)).run Try.prog w = .ok () w := by
 rw [Instr.checkKey]
 simp only [Sem.run_bind, run_underlying Try.underlying3, Result.andThen_ok, Sem.run_pure]
theorem int64_check (x : Int) (empty : Bool) (w : World) (d : Nat) : (Instr.checkKey empty (d + 1) 2 (.int .i64 x)).run Try.prog w = .ok () w := by
 rw [Instr.checkKey]
 simp only [Sem.run_bind, run_underlying Try.underlying2, Result.andThen_ok, Sem.run_pure]
theorem bool_check (x : Bool) (empty : Bool) (w : World) (d : Nat) : (Instr.checkKey empty (d + 1) 4 (.bool x)).run Try.prog w = .ok () w := by
 rw [Instr.checkKey]
 simp only [Sem.run_bind, run_underlying Try.underlying4, Result.andThen_ok, Sem.run_pure]
theorem ResV.check' (k : ResV) (empty : Bool) (w : World) (d : Nat) : (Instr.checkKey empty (d + 1 + 1) 29 (.agg k.cells)).run Try.prog w = .ok () w := by
 rw [Instr.checkKey]
 simp only [Sem.run_bind, run_underlying Try.underlying29, Result.andThen_ok]
 simp only [List.forIn_toArray, List.forIn_cons, List.forIn_nil, ne_eq, String.reduceEq, not_false_eq_true, if_true, Sem.run_bind, part1, Result.andThen_ok, int64_check, bool_check, Sem.run_pure]
theorem ReplyV.check' (k : ReplyV) (empty : Bool) (w : World) (d : Nat) : (Instr.checkKey empty (d + 1 + 1 + 1) 31 (.agg k.cells)).run Try.prog w = .ok () w := by
 rw [Instr.checkKey]
 simp only [Sem.run_bind, run_underlying Try.underlying31, Result.andThen_ok]
 simp only [List.forIn_toArray, List.forIn_cons, List.forIn_nil, ne_eq, String.reduceEq, not_false_eq_true, if_true, Sem.run_bind, part1, partN, Result.andThen_ok, int_check, ResV.check', Sem.run_pure]
theorem ReplyV.same' (k : ReplyV) (d : Nat) : Instr.sameBits (d + 2) (.agg k.cells) (.agg k.cells) = true := by
 simp [Instr.sameBits, ReplyV.cells, ReplyV.list, ResV.list]
instance keyRep : Key Try.prog 31 encR where
 eq x y w := equal_run (x := encR x) (y := encR y) (h := (inferInstance : EqV Try.prog 31 (.agg x.cells) (.agg y.cells) _)) w
 now d _ x y := .inl (sameNow_agg d _ _)
 there := by rw [Try.underlying31]; rfl
 check k empty w := by
  have h : ∀ n : Nat, n = 9997 + 3 → (Instr.checkKey empty n 31 (encR k)).run Try.prog w = .ok () w := fun n hn => by rw [hn]; exact ReplyV.check' k empty w 9997
  exact h 10000 (by decide)
 same k := by
  have h : ∀ n : Nat, n = 9998 + 2 → Instr.sameBits n (encR k) (encR k) = true := fun n hn => by rw [hn]; exact ReplyV.same' k 9998
  exact h 10000 (by decide)
theorem Ef_clearM {κ ν : Type} [DecidableEq κ] {P : Program} {w0 : World} {σ : Env} {H Hr : List SA} {d : Option Nat} {ty : TypeId} {pos : String} {aft : Array Edge} {g : Option (Nat × Bool)} {K' : Value → List SA → Prop} {enc : κ → Value} {ev : ν → Value} {x : Operand} {t r c : Nat} {K E : TypeId} {es : List (Ent κ ν)} (hx : Sx.ev σ x = .map (some r))
 [hp : Pick r H (mapO enc ev es c) Hr] (ht : P.underlying t = some (.map K E)) (h : K' (.tuple #[]) (blk r (mapO enc ev ([] : List (Ent κ ν)) c) :: Hr)) : Ef P w0 H σ ⟨d, .call ⟨.builtin .clear, #[x], #[t]⟩, ty, pos, aft, g⟩ K' := fun w hw => by
 have hw' := hw.sub hp.sub
 have hb : w.heap[r]? = some (mapO enc ev es c) := hw'.holds (blk r _) (by simp)
 simp only [execOp, resolve, List.map_toArray, List.map_cons, List.map_nil, invoke, builtin, Builtin.clear_, hx, List.getElem?_toArray, List.getElem?_cons_zero, Sem.run_bind, Sem.run_pure, run_underlying ht, Result.andThen_ok, getObj_run hb, setObj_run hb, upon]
 exact ⟨_, h, hw'.setObj⟩
theorem putFixed1 (l : List UInt8) (x : Int) : (putFixed l x 1).length = l.length + 1 := by
 unfold putFixed
 rw [if_pos (show wideB 1 = true from rfl), List.length_append, fixed_length]; rfl
set_option maxHeartbeats 1000000 in
theorem right1_c {w0 : World} {H : List SA}  :
 CT Try.prog w0 (H) 62 [.int .i64 1, .agg (OpV.mk 1 0 0 0).cells] (α := Unit) (fun _ => .bool true) (fun _ => H) := by
 refine CT_intro Try.func62 rfl Try.ntmps62 rfl ?_
 refine T_seq ?_
 refine T_region ?_
 refine TL_e rfl (Ef_boxN rfl (fun b3 => ?_))
 refine TL_q (Qt_assign (.bool _) rfl) rfl ?_
 refine TL_nil ?_
 refine X_then ?_
 refine T_seq ?_
 refine T_seq ?_
 refine T_region ?_
 refine TL_q (Qt_move (.int .i64 _) rfl) rfl ?_
 refine TL_q (Qt_eql rfl rfl) rfl ?_
 refine TL_nil ?_
 refine X_then ?_
 refine T_cond_false rfl (by first | rfl | decide) ?_
 refine T_skip ?_
 refine X_then ?_
 refine T_seq ?_
 refine T_seq ?_
 refine T_region ?_
 refine TL_q (Qt_fieldAddr 1 rfl rfl) rfl ?_
 refine TL_q (Qt_load1 rfl) rfl ?_
 refine TL_q (Qt_lss rfl rfl) rfl ?_
 refine TL_q (Qt_move (.bool _) rfl) rfl ?_
 refine TL_split 33 rfl (fun h33 => ?_) (fun h33 => ?_)
 ·
  have p33 := h33
  try simp only [decide_eq_true_eq, decide_eq_false_iff_not, Bool.not_eq_true', Bool.not_eq_false', Option.isNone_iff_eq_none, ne_eq, Decidable.not_not, Int.not_lt, Int.not_le] at p33
  exact absurd h33 (by decide)
 ·
  have p33 := h33
  try simp only [decide_eq_true_eq, decide_eq_false_iff_not, Bool.not_eq_true', Bool.not_eq_false', Option.isNone_iff_eq_none, ne_eq, Decidable.not_not, Int.not_lt, Int.not_le] at p33
  refine TL_take rfl rfl h33 ?_
  refine TL_q (Qt_fieldAddr 1 rfl rfl) rfl ?_
  refine TL_take rfl rfl h33 ?_
  refine TL_q (Qt_load1 rfl) rfl ?_
  refine TL_take rfl rfl h33 ?_
  refine TL_q (Qt_geq rfl rfl) rfl ?_
  refine TL_q (Qt_pick_f (.bool _) rfl h33 rfl) rfl ?_
  refine TL_nil ?_
  refine X_then ?_
  refine T_cond rfl (fun h37 => ?_) (fun h37 => ?_)
  ·
   have p37 := h37
   try simp only [decide_eq_true_eq, decide_eq_false_iff_not, Bool.not_eq_true', Bool.not_eq_false', Option.isNone_iff_eq_none, ne_eq, Decidable.not_not, Int.not_lt, Int.not_le] at p37
   exact absurd h37 (by decide)
  ·
   have p37 := h37
   try simp only [decide_eq_true_eq, decide_eq_false_iff_not, Bool.not_eq_true', Bool.not_eq_false', Option.isNone_iff_eq_none, ne_eq, Decidable.not_not, Int.not_lt, Int.not_le] at p37
   refine T_skip ?_
   refine X_then ?_
   refine T_seq ?_
   refine T_seq ?_
   refine T_region ?_
   refine TL_q (Qt_fieldAddr 0 rfl rfl) rfl ?_
   refine TL_q (Qt_load1 rfl) rfl ?_
   refine TL_nil ?_
   refine X_then ?_
   refine T_block ?_
   refine T_seq ?_
   refine T_block ?_
   refine T_seq ?_
   refine T_block ?_
   refine T_seq ?_
   refine T_block ?_
   refine T_seq ?_
   refine T_seq ?_
   refine T_seq ?_
   refine T_seq ?_
   refine T_region ?_
   refine TL_q (Qt_eql rfl rfl) rfl ?_
   refine TL_q (Qt_assign (.bool _) rfl) rfl ?_
   refine TL_nil ?_
   refine X_then ?_
   refine T_cond_true rfl (by first | rfl | decide) ?_
   refine T_skip ?_
   refine X_then ?_
   refine T_cond_true rfl (by first | rfl | decide) ?_
   refine T_exit ?_
   refine X_then_exit ?_
   refine X_then_exit ?_
   refine X_block_exit ?_
   refine X_then ?_
   refine T_seq ?_
   refine T_region ?_
   refine TL_q (Qt_fieldAddr 2 rfl rfl) rfl ?_
   refine TL_q (Qt_load1 rfl) rfl ?_
   refine TL_q (Qt_neq rfl rfl) rfl ?_
   refine TL_nil ?_
   refine X_then ?_
   refine T_cond_false rfl (by first | rfl | decide) ?_
   refine T_skip ?_
   refine X_block ?_
   refine X_then ?_
   refine T_seq ?_
   refine T_seq ?_
   refine T_region ?_
   refine TL_q (Qt_fieldAddr 3 rfl rfl) rfl ?_
   refine TL_q (Qt_load1 rfl) rfl ?_
   refine TL_q (Qt_eql rfl rfl) rfl ?_
   refine TL_q (Qt_assign (.bool _) rfl) rfl ?_
   refine TL_nil ?_
   refine X_then ?_
   refine T_ret ?_
   refine X_then_ret ?_
   refine X_block_ret ?_
   refine X_then_ret ?_
   refine X_block_ret ?_
   refine X_then_ret ?_
   exact X_ret () [.bool true] Try.results62 ⟨congrArg Value.bool (by decide), trivial⟩ rfl (Subs.st inferInstance)
set_option maxHeartbeats 1000000 in
theorem formed1_c {w0 : World} {H : List SA} {n : Nat} (h1 : 1 ≤ n) (h8 : n ≤ 8) {sg : BS} (hs : sg.l.length ≤ 1000) :
 CT Try.prog w0 (H) 107 [.agg (ReqV.mk 1 (n : Int) (OpV.mk 1 0 0 0) sg).cells] (α := Unit) (fun _ => .bool true) (fun _ => H) := by
 refine CT_intro Try.func107 rfl Try.ntmps107 rfl ?_
 refine T_seq ?_
 refine T_region ?_
 refine TL_e rfl (Ef_boxN rfl (fun b1 => ?_))
 refine TL_q (Qt_assign (.bool _) rfl) rfl ?_
 refine TL_nil ?_
 refine X_then ?_
 refine T_seq ?_
 refine T_region ?_
 refine TL_q (Qt_fieldAddr 0 rfl rfl) rfl ?_
 refine TL_q (Qt_load1 rfl) rfl ?_
 refine TL_q (Qt_geq rfl rfl) rfl ?_
 refine TL_q (Qt_move (.bool _) rfl) rfl ?_
 refine TL_split 6 rfl (fun h6 => ?_) (fun h6 => ?_)
 ·
  have p6 := h6
  try simp only [decide_eq_true_eq, decide_eq_false_iff_not, Bool.not_eq_true', Bool.not_eq_false', Option.isNone_iff_eq_none, ne_eq, Decidable.not_not, Int.not_lt, Int.not_le] at p6
  refine TL_take rfl rfl h6 ?_
  refine TL_q (Qt_fieldAddr 0 rfl rfl) rfl ?_
  refine TL_take rfl rfl h6 ?_
  refine TL_q (Qt_load1 rfl) rfl ?_
  refine TL_take rfl rfl h6 ?_
  refine TL_q (Qt_lss rfl rfl) rfl ?_
  refine TL_q (Qt_pick_t (.bool _) rfl h6 rfl) rfl ?_
  refine TL_q (Qt_move (.bool _) rfl) rfl ?_
  refine TL_split 11 rfl (fun h11 => ?_) (fun h11 => ?_)
  ·
   have p11 := h11
   try simp only [decide_eq_true_eq, decide_eq_false_iff_not, Bool.not_eq_true', Bool.not_eq_false', Option.isNone_iff_eq_none, ne_eq, Decidable.not_not, Int.not_lt, Int.not_le] at p11
   refine TL_take rfl rfl h11 ?_
   refine TL_q (Qt_fieldAddr 1 rfl rfl) rfl ?_
   refine TL_take rfl rfl h11 ?_
   refine TL_q (Qt_load1 rfl) rfl ?_
   refine TL_take rfl rfl h11 ?_
   refine TL_q (Qt_geq rfl rfl) rfl ?_
   refine TL_q (Qt_pick_t (.bool _) rfl h11 rfl) rfl ?_
   refine TL_q (Qt_move (.bool _) rfl) rfl ?_
   refine TL_split 16 rfl (fun h16 => ?_) (fun h16 => ?_)
   ·
    have p16 := h16
    try simp only [decide_eq_true_eq, decide_eq_false_iff_not, Bool.not_eq_true', Bool.not_eq_false', Option.isNone_iff_eq_none, ne_eq, Decidable.not_not, Int.not_lt, Int.not_le] at p16
    refine TL_take rfl rfl h16 ?_
    refine TL_q (Qt_fieldAddr 1 rfl rfl) rfl ?_
    refine TL_take rfl rfl h16 ?_
    refine TL_q (Qt_load1 rfl) rfl ?_
    refine TL_take rfl rfl h16 ?_
    refine TL_q (Qt_leq rfl rfl) rfl ?_
    refine TL_q (Qt_pick_t (.bool _) rfl h16 rfl) rfl ?_
    refine TL_q (Qt_move (.bool _) rfl) rfl ?_
    refine TL_split 21 rfl (fun h21 => ?_) (fun h21 => ?_)
    ·
     have p21 := h21
     try simp only [decide_eq_true_eq, decide_eq_false_iff_not, Bool.not_eq_true', Bool.not_eq_false', Option.isNone_iff_eq_none, ne_eq, Decidable.not_not, Int.not_lt, Int.not_le] at p21
     refine TL_take rfl rfl h21 ?_
     refine TL_q (Qt_fieldAddr 0 rfl rfl) rfl ?_
     refine TL_take rfl rfl h21 ?_
     refine TL_q (Qt_load1 rfl) rfl ?_
     refine TL_take rfl rfl h21 ?_
     refine TL_q (Qt_fieldAddr 2 rfl rfl) rfl ?_
     refine TL_take rfl rfl h21 ?_
     refine TL_q (Qt_loadN rfl rfl) rfl ?_
     refine TL_take rfl rfl h21 ?_
     refine TL_e rfl (Ef_call (right1_c) rfl (fun x26 => ?_))
     refine TL_q (Qt_pick_t (.bool _) rfl h21 rfl) rfl ?_
     refine TL_q (Qt_move (.bool _) rfl) rfl ?_
     refine TL_split 28 rfl (fun h28 => ?_) (fun h28 => ?_)
     ·
      have p28 := h28
      try simp only [decide_eq_true_eq, decide_eq_false_iff_not, Bool.not_eq_true', Bool.not_eq_false', Option.isNone_iff_eq_none, ne_eq, Decidable.not_not, Int.not_lt, Int.not_le] at p28
      refine TL_take rfl rfl h28 ?_
      refine TL_q (Qt_fieldAddr 6 rfl rfl) rfl ?_
      refine TL_take rfl rfl h28 ?_
      refine TL_q (Qt_load1 rfl) rfl ?_
      refine TL_take rfl rfl h28 ?_
      refine TL_q (Qt_len_slice rfl Try.underlying37) rfl ?_
      refine TL_take rfl rfl h28 ?_
      refine TL_q (Qt_leq rfl rfl) rfl ?_
      refine TL_q (Qt_pick_t (.bool _) rfl h28 rfl) rfl ?_
      refine TL_q (Qt_assign (.bool _) rfl) rfl ?_
      refine TL_nil ?_
      refine X_then ?_
      refine T_ret ?_
      exact X_ret () [.bool true] Try.results107 ⟨congrArg Value.bool (by simp; omega), trivial⟩ rfl (Subs.st inferInstance)
     ·
      have p28 := h28
      try simp only [decide_eq_true_eq, decide_eq_false_iff_not, Bool.not_eq_true', Bool.not_eq_false', Option.isNone_iff_eq_none, ne_eq, Decidable.not_not, Int.not_lt, Int.not_le] at p28
      exact absurd h28 (by simp; try omega)
    ·
     have p21 := h21
     try simp only [decide_eq_true_eq, decide_eq_false_iff_not, Bool.not_eq_true', Bool.not_eq_false', Option.isNone_iff_eq_none, ne_eq, Decidable.not_not, Int.not_lt, Int.not_le] at p21
     exact absurd h21 (by simp; try omega)
   ·
    have p16 := h16
    try simp only [decide_eq_true_eq, decide_eq_false_iff_not, Bool.not_eq_true', Bool.not_eq_false', Option.isNone_iff_eq_none, ne_eq, Decidable.not_not, Int.not_lt, Int.not_le] at p16
    exact absurd h16 (by simp; try omega)
  ·
   have p11 := h11
   try simp only [decide_eq_true_eq, decide_eq_false_iff_not, Bool.not_eq_true', Bool.not_eq_false', Option.isNone_iff_eq_none, ne_eq, Decidable.not_not, Int.not_lt, Int.not_le] at p11
   exact absurd h11 (by simp; try omega)
 ·
  have p6 := h6
  try simp only [decide_eq_true_eq, decide_eq_false_iff_not, Bool.not_eq_true', Bool.not_eq_false', Option.isNone_iff_eq_none, ne_eq, Decidable.not_not, Int.not_lt, Int.not_le] at p6
  exact absurd h6 (by simp; try omega)
set_option maxHeartbeats 1000000 in
theorem text1_c {w0 : World} {H : List SA} {n : Nat} (h1 : 1 ≤ n) (h8 : n ≤ 8) {sg : BS} (hs : sg.l.length ≤ 1000) :
 CT Try.prog w0 (H) 64 [.agg (ReqV.mk 1 (n : Int) (OpV.mk 1 0 0 0) sg).cells] (α := AC × List UInt8) (fun y => .slice y.1.a y.2.length y.1.c) (fun y => pu (y.2.length ≤ 100) :: row (.slice y.1.a (y.2).length y.1.c) 5 1 (bytesV (y.2)) :: H) := by
 refine CT_intro Try.func64 rfl Try.ntmps64 rfl ?_
 refine T_seq ?_
 refine T_region ?_
 refine TL_e rfl (Ef_boxN rfl (fun b1 => ?_))
 refine TL_q (Qt_assign (.slice _ _ _) rfl) rfl ?_
 refine TL_nil ?_
 refine X_then ?_
 refine T_seq ?_
 refine T_seq ?_
 refine T_region ?_
 refine TL_q (Qt_loadN rfl rfl) rfl ?_
 refine TL_e rfl (Ef_call (formed1_c h1 h8 hs) rfl (fun x7 => ?_))
 refine TL_q (Qt_not rfl) rfl ?_
 refine TL_nil ?_
 refine X_then ?_
 refine T_cond_false rfl (by first | rfl | decide) ?_
 refine T_skip ?_
 refine X_then ?_
 refine T_seq ?_
 refine T_region ?_
 refine TL_q (Qt_assign (.slice _ _ _) rfl) rfl ?_
 refine TL_nil ?_
 refine X_then ?_
 refine T_seq ?_
 refine T_seq ?_
 refine T_region ?_
 refine TL_q (Qt_fieldAddr 0 rfl rfl) rfl ?_
 refine TL_q (Qt_load1 rfl) rfl ?_
 refine TL_q (Qt_fieldAddr 1 rfl rfl) rfl ?_
 refine TL_q (Qt_load1 rfl) rfl ?_
 refine TL_q (Qt_fieldAddr 2 rfl rfl) rfl ?_
 refine TL_q (Qt_fieldAddr 2 rfl rfl) rfl ?_
 refine TL_q (Qt_load1 rfl) rfl ?_
 refine TL_q (Qt_fieldAddr 2 rfl rfl) rfl ?_
 refine TL_q (Qt_fieldAddr 3 rfl rfl) rfl ?_
 refine TL_q (Qt_load1 rfl) rfl ?_
 refine TL_q (Qt_build_arr #[(.int .i64 _), (.int .i64 _), (.int .i64 _), (.int .i64 _)] Try.underlying188 rfl rfl rfl) rfl ?_
 refine TL_q (Qt_move (.int .i64 _) rfl) rfl ?_
 refine TL_nil ?_
 refine X_then ?_
 refine T_block ?_
 refine T_unroll (TU_round ?_)
 refine T_seq ?_
 refine T_region ?_
 refine TL_q (Qt_lss rfl rfl) rfl ?_
 refine TL_nil ?_
 refine X_then ?_
 refine T_seq ?_
 refine T_cond_true rfl (by first | rfl | decide) ?_
 refine T_skip ?_
 refine X_then ?_
 refine T_seq ?_
 refine T_block ?_
 refine T_seq ?_
 refine T_region ?_
 refine TL_q (Qt_index (_) rfl rfl Try.underlying188 (by omega) (by omega) (rfl)) rfl ?_
 refine TL_q (Qt_assign (.int .i64 _) rfl) rfl ?_
 refine TL_nil ?_
 refine X_then ?_
 refine T_region ?_
 refine TL_q (Qt_move (.slice _ _ _) rfl) rfl ?_
 refine TL_q (Qt_move (.int .i64 _) rfl) rfl ?_
 refine TL_q (Qt_conv rfl rfl Try.underlying167) rfl ?_
 refine TL_e rfl (Ef_call (putFixed_c (a := none) (l := []) (c := 0) (x := (IntKind.u64.wrap 1)) (n := 1) (hr := RdB.nil') (by first | omega | (simp; done)) (u64_nonneg _)) rfl (fun x26 => ?_))
 obtain ⟨l0, hl0⟩ : ∃ l : List UInt8, l = putFixed [] (IntKind.u64.wrap 1) 1 := ⟨_, rfl⟩
 rw [← hl0]
 have hn0 : l0.length = 1 := by have h := putFixed1 [] (IntKind.u64.wrap 1); rw [hl0]; first | exact h | omega
 refine TL_q (Qt_assign (.slice _ _ _) rfl) rfl ?_
 refine TL_nil ?_
 refine X_block ?_
 refine X_then ?_
 refine T_region ?_
 first
  | refine TL_q (Qt_add rfl rfl (by omega) (by omega)) rfl ?_
  | refine TL_q (Qt_addw rfl rfl) rfl ?_
 refine TL_q (Qt_move (.int .i64 _) rfl) rfl ?_
 refine TL_nil ?_
 refine X_again (TU_round ?_)
 refine T_seq ?_
 refine T_region ?_
 refine TL_q (Qt_lss rfl rfl) rfl ?_
 refine TL_nil ?_
 refine X_then ?_
 refine T_seq ?_
 refine T_cond_true rfl (by first | rfl | decide) ?_
 refine T_skip ?_
 refine X_then ?_
 refine T_seq ?_
 refine T_block ?_
 refine T_seq ?_
 refine T_region ?_
 refine TL_q (Qt_index (_) rfl rfl Try.underlying188 (by omega) (by omega) (rfl)) rfl ?_
 refine TL_q (Qt_assign (.int .i64 _) rfl) rfl ?_
 refine TL_nil ?_
 refine X_then ?_
 refine T_region ?_
 refine TL_q (Qt_move (.slice _ _ _) rfl) rfl ?_
 refine TL_q (Qt_move (.int .i64 _) rfl) rfl ?_
 refine TL_q (Qt_conv rfl rfl Try.underlying167) rfl ?_
 refine TL_e rfl (Ef_call (putFixed_c (l := l0) (x := (IntKind.u64.wrap (n : Int))) (n := 1) (by first | omega | (simp; done)) (u64_nonneg _)) rfl (fun x26 => ?_))
 obtain ⟨l1, hl1⟩ : ∃ l : List UInt8, l = putFixed l0 (IntKind.u64.wrap (n : Int)) 1 := ⟨_, rfl⟩
 rw [← hl1]
 have hn1 : l1.length = 2 := by have h := putFixed1 l0 (IntKind.u64.wrap (n : Int)); rw [hl1]; first | exact h | omega
 refine TL_q (Qt_assign (.slice _ _ _) rfl) rfl ?_
 refine TL_nil ?_
 refine X_block ?_
 refine X_then ?_
 refine T_region ?_
 first
  | refine TL_q (Qt_add rfl rfl (by omega) (by omega)) rfl ?_
  | refine TL_q (Qt_addw rfl rfl) rfl ?_
 refine TL_q (Qt_move (.int .i64 _) rfl) rfl ?_
 refine TL_nil ?_
 refine X_again (TU_round ?_)
 refine T_seq ?_
 refine T_region ?_
 refine TL_q (Qt_lss rfl rfl) rfl ?_
 refine TL_nil ?_
 refine X_then ?_
 refine T_seq ?_
 refine T_cond_true rfl (by first | rfl | decide) ?_
 refine T_skip ?_
 refine X_then ?_
 refine T_seq ?_
 refine T_block ?_
 refine T_seq ?_
 refine T_region ?_
 refine TL_q (Qt_index (_) rfl rfl Try.underlying188 (by omega) (by omega) (rfl)) rfl ?_
 refine TL_q (Qt_assign (.int .i64 _) rfl) rfl ?_
 refine TL_nil ?_
 refine X_then ?_
 refine T_region ?_
 refine TL_q (Qt_move (.slice _ _ _) rfl) rfl ?_
 refine TL_q (Qt_move (.int .i64 _) rfl) rfl ?_
 refine TL_q (Qt_conv rfl rfl Try.underlying167) rfl ?_
 refine TL_e rfl (Ef_call (putFixed_c (l := l1) (x := (IntKind.u64.wrap 1)) (n := 1) (by first | omega | (simp; done)) (u64_nonneg _)) rfl (fun x26 => ?_))
 obtain ⟨l2, hl2⟩ : ∃ l : List UInt8, l = putFixed l1 (IntKind.u64.wrap 1) 1 := ⟨_, rfl⟩
 rw [← hl2]
 have hn2 : l2.length = 3 := by have h := putFixed1 l1 (IntKind.u64.wrap 1); rw [hl2]; first | exact h | omega
 refine TL_q (Qt_assign (.slice _ _ _) rfl) rfl ?_
 refine TL_nil ?_
 refine X_block ?_
 refine X_then ?_
 refine T_region ?_
 first
  | refine TL_q (Qt_add rfl rfl (by omega) (by omega)) rfl ?_
  | refine TL_q (Qt_addw rfl rfl) rfl ?_
 refine TL_q (Qt_move (.int .i64 _) rfl) rfl ?_
 refine TL_nil ?_
 refine X_again (TU_round ?_)
 refine T_seq ?_
 refine T_region ?_
 refine TL_q (Qt_lss rfl rfl) rfl ?_
 refine TL_nil ?_
 refine X_then ?_
 refine T_seq ?_
 refine T_cond_true rfl (by first | rfl | decide) ?_
 refine T_skip ?_
 refine X_then ?_
 refine T_seq ?_
 refine T_block ?_
 refine T_seq ?_
 refine T_region ?_
 refine TL_q (Qt_index (_) rfl rfl Try.underlying188 (by omega) (by omega) (rfl)) rfl ?_
 refine TL_q (Qt_assign (.int .i64 _) rfl) rfl ?_
 refine TL_nil ?_
 refine X_then ?_
 refine T_region ?_
 refine TL_q (Qt_move (.slice _ _ _) rfl) rfl ?_
 refine TL_q (Qt_move (.int .i64 _) rfl) rfl ?_
 refine TL_q (Qt_conv rfl rfl Try.underlying167) rfl ?_
 refine TL_e rfl (Ef_call (putFixed_c (l := l2) (x := (IntKind.u64.wrap 0)) (n := 1) (by first | omega | (simp; done)) (u64_nonneg _)) rfl (fun x26 => ?_))
 obtain ⟨l3, hl3⟩ : ∃ l : List UInt8, l = putFixed l2 (IntKind.u64.wrap 0) 1 := ⟨_, rfl⟩
 rw [← hl3]
 have hn3 : l3.length = 4 := by have h := putFixed1 l2 (IntKind.u64.wrap 0); rw [hl3]; first | exact h | omega
 refine TL_q (Qt_assign (.slice _ _ _) rfl) rfl ?_
 refine TL_nil ?_
 refine X_block ?_
 refine X_then ?_
 refine T_region ?_
 first
  | refine TL_q (Qt_add rfl rfl (by omega) (by omega)) rfl ?_
  | refine TL_q (Qt_addw rfl rfl) rfl ?_
 refine TL_q (Qt_move (.int .i64 _) rfl) rfl ?_
 refine TL_nil ?_
 refine X_again (TU_round ?_)
 refine T_seq ?_
 refine T_region ?_
 refine TL_q (Qt_lss rfl rfl) rfl ?_
 refine TL_nil ?_
 refine X_then ?_
 refine T_seq ?_
 refine T_cond_false rfl (by first | rfl | decide) ?_
 refine T_exit ?_
 refine X_then_exit ?_
 refine X_again_exit ?_
 refine X_block_exit ?_
 refine X_then ?_
 refine T_seq ?_
 refine T_draw (blk b1 (.cells (ReqV.mk 1 (n : Int) (OpV.mk 1 0 0 0) sg).cells 85 (0, 0)) :: H) [(0, true), (1, true), (2, true), (3, true), (5, true), (6, true), (7, true), (4, false), (8, false), (9, true)] (by kernel_rfl) (by kernel_rfl) rfl (by kernel_rfl) (Subs.st inferInstance) (fun hns0 => ?_)
 refine DL_q hns0 rfl (Qt_move (.slice _ _ _) rfl) rfl ?_
 refine DL_q hns0 rfl (Qt_fieldAddr 2 rfl rfl) rfl ?_
 refine DL_q hns0 rfl (Qt_fieldAddr 4 rfl rfl) rfl ?_
 refine DL_q hns0 rfl (Qt_load1 rfl) rfl ?_
 refine DL_q hns0 rfl (Qt_fieldAddr 2 rfl rfl) rfl ?_
 refine DL_q hns0 rfl (Qt_fieldAddr 5 rfl rfl) rfl ?_
 refine DL_q hns0 rfl (Qt_load1 rfl) rfl ?_
 refine DL_e rfl rfl (Ef_call (putFolded_c (l := l3) (x := 0) (by omega) (by omega)) rfl (fun x32 => ⟨(Subs.st inferInstance), ?_⟩))
 refine DL_e rfl rfl (Ef_call (putFolded_c (l := l3 ++ packed (foldN 0)) (x := 0) (by have := packed_length_le (foldN 0) (by decide); rw [List.length_append]; omega) (by omega)) rfl (fun x36 => ⟨(Subs.st inferInstance), ?_⟩))
 refine DL_q hns0 rfl (Qt_assign (.slice _ _ _) rfl) rfl ?_
 refine DL_nil ?_
 refine X_then ?_
 refine T_ret ?_
 exact X_ret (⟨x36.a, x36.c⟩, l3 ++ packed (foldN 0) ++ packed (foldN 0)) [_] Try.results64 ⟨rfl, trivial⟩ rfl (fun w hw => (Subs.st inferInstance w hw : St w0 (row (.slice x36.a (l3 ++ packed (foldN 0) ++ packed (foldN 0)).length x36.c) 5 1 (bytesV (l3 ++ packed (foldN 0) ++ packed (foldN 0))) :: H) w).addPure (by have := packed_length_le (foldN 0) (by decide); show (l3 ++ packed (foldN 0) ++ packed (foldN 0)).length ≤ 100; rw [List.length_append, List.length_append]; omega))
set_option maxHeartbeats 1000000 in
theorem rput1_c {w0 : World} {H : List SA} {n : Nat} (h1 : 1 ≤ n) (h8 : n ≤ 8) {sg : BS} [hr : RdB w0 H (.slice sg.a sg.l.length sg.c) sg.l] (hs : sg.l.length ≤ 1000) :
 CT Try.prog w0 (H) 65 [.agg (ReqV.mk 1 (n : Int) (OpV.mk 1 0 0 0) sg).cells] (α := Sl) (fun y => .tuple #[.slice y.a y.n y.c, .int .i64 0]) (fun _ => H) := by
 refine CT_intro Try.func65 rfl Try.ntmps65 rfl ?_
 refine T_seq ?_
 refine T_region ?_
 refine TL_e rfl (Ef_boxN rfl (fun b1 => ?_))
 refine TL_q (Qt_assign (.slice _ _ _) rfl) rfl ?_
 refine TL_q (Qt_assign (.int .i64 _) rfl) rfl ?_
 refine TL_nil ?_
 refine X_then ?_
 refine T_seq ?_
 refine T_seq ?_
 refine T_region ?_
 refine TL_q (Qt_loadN rfl rfl) rfl ?_
 refine TL_e rfl (Ef_call (formed1_c h1 h8 hs) rfl (fun x5 => ?_))
 refine TL_q (Qt_not rfl) rfl ?_
 refine TL_nil ?_
 refine X_then ?_
 refine T_cond_false rfl (by first | rfl | decide) ?_
 refine T_skip ?_
 refine X_then ?_
 refine T_seq ?_
 refine T_draw (blk b1 (.cells (ReqV.mk 1 (n : Int) (OpV.mk 1 0 0 0) sg).cells 85 (0, 0)) :: H) [(0, true), (3, true), (4, true), (1, false), (2, false), (5, false), (6, true), (7, true)] (by kernel_rfl) (by kernel_rfl) rfl (by kernel_rfl) (Subs.st inferInstance) (fun hns0 => ?_)
 refine DL_q hns0 rfl (Qt_loadN rfl rfl) rfl ?_
 refine DL_q hns0 rfl (Qt_fieldAddr 6 rfl rfl) rfl ?_
 refine DL_q hns0 rfl (Qt_load1 rfl) rfl ?_
 refine DL_e rfl rfl (Ef_call (text1_c h1 h8 hs) rfl (fun x8 => ⟨(Subs.st inferInstance), ?_⟩))
 refine DL_pure (fun h8b => ?_)
 refine DL_e rfl rfl (Ef_call (putText_c (a := none) (l := []) (c := 0) (l2 := x8.2) (hr := RdB.nil') (by simp) (by omega)) rfl (fun x9 => ⟨(Subs.st inferInstance), ?_⟩))
 refine DL_e rfl rfl (Ef_call (putText_c (l := [] ++ packed x8.2.length ++ x8.2) (l2 := sg.l) (by have := packed_length_le x8.2.length (by omega); simp only [List.length_append, List.length_nil]; omega) (by omega)) rfl (fun x12 => ⟨(Subs.st inferInstance), ?_⟩))
 refine DL_q hns0 rfl (Qt_assign (.slice _ _ _) rfl) rfl ?_
 refine DL_q hns0 rfl (Qt_assign (.int .i64 _) rfl) rfl ?_
 refine DL_nil ?_
 refine X_then ?_
 refine T_ret ?_
 exact X_ret ⟨x12.a, _, x12.c⟩ [_, _] Try.results65 ⟨rfl, rfl, trivial⟩ rfl (Subs.st inferInstance)
end
end Go.Proofs.Ytpdpapcmfnhgpaa
