/- Stores of many cells into rows of our own, the clearing of a row's end, rows cut short. General. -/
import Derived.Test.YtnijomppbgdmnaaGreatSdP
import Derived.Test.YtnijomppbgdmnaaGreatSwP
set_option linter.unusedSimpArgs false
set_option linter.unusedVariables false
namespace Go.Sx
open Go.RowKit
theorem fold_store (cur : Array Value) (vs : List Value) (off : Nat) (h : off + vs.length ≤ cur.size) :
    (vs.zipIdx 0).foldl (fun cs (x : Value × Nat) => cs.setIfInBounds (off + x.2) x.1) cur = (cur.toList.take off ++ (vs ++ cur.toList.drop (off + vs.length))).toArray := by
  have e0 : cur.toList.drop (off + vs.length) = (cur.toList.drop off).drop vs.length := by rw [List.drop_drop]
  have hc : cur = (cur.toList.take off ++ ((cur.toList.drop off).take vs.length ++ cur.toList.drop (off + vs.length))).toArray := by
    rw [e0, List.take_append_drop, List.take_append_drop]
  have h1 := put_mid (cur.toList.take off) ((cur.toList.drop off).take vs.length) (cur.toList.drop (off + vs.length)) (o := off) (n := vs.length) (v := .agg vs.toArray) (by simp; omega) (by simp; omega) (by simp [Value.cells])
  rw [← hc] at h1
  have h2 : (vs.zipIdx 0).foldl (fun cs (x : Value × Nat) => cs.setIfInBounds (off + x.2) x.1) cur = putCells cur off (.agg vs.toArray) := by
    rw [putCells, ← Array.foldl_toList]; simp [Value.cells]
  rw [h2, h1]; simp [Value.cells]
theorem take_store (cl xs vs : List Value) (m off : Nat) (hx : cl.take m = xs) (hm : m ≤ cl.length) (ho : off + vs.length ≤ m) :
    (cl.take off ++ (vs ++ cl.drop (off + vs.length))).take m = xs.take off ++ (vs ++ xs.drop (off + vs.length)) := by
  have hl : xs.length = m := by rw [← hx, List.length_take]; omega
  have e : cl = xs ++ cl.drop m := by rw [← hx, List.take_append_drop]
  have e1 : cl.take off = xs.take off := by rw [← hx, List.take_take, Nat.min_eq_left (by omega)]
  have e2 : cl.drop (off + vs.length) = xs.drop (off + vs.length) ++ cl.drop m := by
    conv => lhs; rw [e]
    exact List.drop_append_of_le_length (by omega)
  rw [e1, e2, ← List.append_assoc vs, ← List.append_assoc (xs.take off)]
  exact List.take_left' (by simp; omega)
theorem St.storeRow {P : Program} {w0 w : World} {H : List SA} {av : Option Addr} {n c e sz : Nat} {xs : List Value} (vs : List Value) (off : Nat) (hw : St w0 (row (.slice av n c) e sz xs :: H) w) (h0 : 0 < vs.length)
    (hoff : off + vs.length ≤ xs.length) (h1 : ∀ v ∈ vs, v.oneCell' = true) :
    ∃ gb w', av = some ⟨gb, 0, none⟩ ∧ (storeCells ⟨gb, off, none⟩ vs 0).run P w = .ok () w' ∧ St w0 (row (.slice av n c) e sz (xs.take off ++ (vs ++ xs.drop (off + vs.length))) :: H) w' := by
  obtain ⟨a', n', c', hv, hl, hn, hc, han, hcur⟩ := hw.holds (row (.slice av n c) e sz xs) (by simp)
  obtain ⟨rfl, rfl, rfl⟩ : a' = av ∧ n' = n ∧ c' = c := by simp at hv; exact ⟨hv.1.symm, hv.2.1.symm, hv.2.2.symm⟩
  have hc0 : c' ≠ 0 := by
    rintro rfl
    have : xs.length = 0 := by rw [hl, show n' = 0 from by omega, Nat.zero_mul]
    omega
  obtain ⟨gb, cur, rfl, hgw, hcs, htk⟩ := hcur hc0
  have hle : n' * sz ≤ c' * sz := Nat.mul_le_mul_right _ hn
  obtain ⟨w', hrun, hb', g1, g2, g3, g4, g5⟩ := run_storeCells_put P (b := gb) (off := off) (T := e) vs 0 cur w hgw h1 (by omega)
  have hf := fold_store cur vs off (by omega)
  have hb2 : w'.heap[gb]? = some (.cells (cur.toList.take off ++ (vs ++ cur.toList.drop (off + vs.length))).toArray e (0, 0)) := by rw [← hf]; exact hb'
  have hlt : gb < w.heap.size := (Array.getElem?_eq_some_iff.1 hgw).1
  refine ⟨gb, w', rfl, hrun, hw.swap g1 g2 g3 (by omega) (fun k _ hk => g5 k (fun e => hk (by simp [row, rowFp, hc0, e]))) ?_ (by simp [row, rowFp, hc0]) ?_⟩
  · refine ⟨_, _, _, rfl, ?_, hn, hc, by simp, fun _ => ⟨_, _, rfl, hb2, ?_, ?_⟩⟩
    · simp only [List.length_append, List.length_take, List.length_drop]; omega
    · simp only [List.size_toArray, List.length_append, List.length_take, List.length_drop, Array.length_toList]; omega
    · exact take_store _ _ _ _ _ htk (by simp; omega) (by omega)
  · intro b hb3
    simp [row, rowFp, hc0] at hb3
    subst hb3
    exact ⟨.inl (by simp [row, rowFp, hc0]), by omega⟩
theorem St.rowCut {w0 w : World} {H : List SA} {av : Option Addr} {n c k e sz : Nat} {ys zs : List Value} (h : St w0 (row (.slice av n c) e sz (ys ++ zs) :: H) w) (hk : ys.length = k * sz) (hkn : k ≤ n) : St w0 (row (.slice av k c) e sz ys :: H) w := by
  refine h.turn (by show rowFp _ = rowFp _; cases av <;> rfl) fun hp => ?_
  obtain ⟨a', n', c', hv, hl, hn, hc, han, hcur⟩ := hp
  obtain ⟨rfl, rfl, rfl⟩ : a' = av ∧ n' = n ∧ c' = c := by simp at hv; exact ⟨hv.1.symm, hv.2.1.symm, hv.2.2.symm⟩
  refine ⟨a', k, c', rfl, hk, by omega, hc, han, fun h0 => ?_⟩
  obtain ⟨gb, cur, hg, hgw, hcs, htk⟩ := hcur h0
  refine ⟨gb, cur, hg, hgw, hcs, ?_⟩
  have hle : k * sz ≤ n' * sz := Nat.mul_le_mul_right _ hkn
  have := congrArg (List.take (k * sz)) htk
  rw [List.take_take, Nat.min_eq_left hle, List.take_left' hk] at this
  exact this
section
variable {P : Program} {w0 : World} {σ : Env} {H Hr : List SA} {d : Option Nat} {ty : TypeId} {pos : String} {aft : Array Edge} {g : Option (Nat × Bool)} {K : Value → List SA → Prop}
/-- A store of many cells into a row of our own. -/
theorem Ef_storeRN {a x : Operand} {t e sz n c j m : Nat} {av : Option Addr} {xs : List Value} {vs : Array Value} (ha : ev σ a = .pointer (ptrOf (.slice av n c) j)) (hx : ev σ x = .agg vs) [hcl : Cells vs m] [hr : PickR (.slice av n c) H e sz xs Hr] (h0 : 0 < m) (hj : j + m ≤ xs.length) (ht : tySizeB P t m = true)
    (hk : K undef (row (.slice av n c) e sz (xs.take j ++ (vs.toList ++ xs.drop (j + m))) :: Hr)) : Ef P w0 H σ ⟨d, .store t a x, ty, pos, aft, g⟩ K := fun w hw => by
  have hw' := hr.st hw
  have hsz := hcl.size
  have hl : vs.toList.length = m := by simpa using hsz
  obtain ⟨gb, w', rfl, hrun, hst⟩ := St.storeRow (P := P) vs.toList j hw' (by omega) (by omega) hcl.one
  have hp : ptrOf (.slice (some ⟨gb, 0, none⟩) n c) j = some ⟨gb, j, none⟩ := by simp only [ptrOf, add_block, Nat.zero_add]
  rw [hp] at ha
  have hi : ∃ i, P.info? t = some i ∧ i.size = m := by
    unfold tySizeB at ht
    split at ht
    · rename_i i hi; exact ⟨i, hi, by simpa using ht⟩
    · cases ht
  obtain ⟨i, hi, his⟩ := hi
  simp only [execOp, ha, hx, Instr.storeAt, Instr.sureAddr, storeVar, Sem.run_bind, Sem.run_pure, Result.andThen_ok, run_sizeOf_of hi, his, show (Value.agg vs).cells.size = m from hsz, ne_eq, not_true_eq_false, if_false, show (Value.agg vs).cells.toList = vs.toList from rfl, hrun, upon]
  rw [hl] at hst
  exact ⟨_, hk, hst⟩
/-- clear of a row's end. -/
theorem Ef_clearT {s : Operand} {t e sz bytes n c k : Nat} {av : Option Addr} {xs : List Value} (hs : ev σ s = .slice (subA av c k sz) (n - k) (c - k)) [ht : TySl P t e sz bytes] [hr : PickR (.slice av n c) H e sz xs Hr] (hkn : k ≤ n) (hxl : xs.length = n * sz)
    (hz1 : ∀ z, (P.info? e).bind (·.zero) = some z → ∀ u ∈ z.cells.toList, u.oneCell' = true)
    (hk : ∀ zs : List Value, zs.length = (n - k) * sz → K (.tuple #[]) (row (.slice av n c) e sz (xs.take (k * sz) ++ zs) :: Hr)) : Ef P w0 H σ ⟨d, .call ⟨.builtin .clear, #[s], #[t]⟩, ty, pos, aft, g⟩ K := fun w hw => by
  have hw' := hr.st hw
  obtain ⟨i, z, hi, hz, hsz, hby, hzs⟩ := ht.spec
  have hpos := ht.pos
  rcases Nat.eq_zero_or_pos (n - k) with hz0 | hp0
  · have hkn' : k = n := by omega
    subst hkn'
    have hrun : (execOp (ev σ) ⟨d, .call ⟨.builtin .clear, #[s], #[t]⟩, ty, pos, aft, g⟩).run P w = .ok (.value (.tuple #[])) w := by
      rw [Nat.sub_self] at hs
      simp only [execOp, resolve, List.map_toArray, List.map_cons, List.map_nil, invoke, builtin, Builtin.clear_, hs, List.getElem?_toArray, List.getElem?_cons_zero, Sem.run_bind, Sem.run_pure, run_underlying ht.ht, Result.andThen_ok]
      cases subA av c k sz <;> simp
    rw [hrun]
    refine ⟨_, hk [] (by simp), ?_⟩
    rw [List.append_nil, List.take_of_length_le (by omega)]
    exact hw'
  · have hml : (n - k) * sz + k * sz = n * sz := by rw [← Nat.add_mul]; congr 1; omega
    have hmp : 0 < (n - k) * sz := Nat.mul_pos hp0 hpos
    have hzl : (Builtin.zeroCells z.cells (n - k)).toList.length = (n - k) * sz := by simp [Builtin.zeroCells, hzs]
    have hzone : ∀ u ∈ (Builtin.zeroCells z.cells (n - k)).toList, u.oneCell' = true := by
      intro u hu
      simp only [Builtin.zeroCells, Array.toList_map, List.mem_map] at hu
      obtain ⟨q, -, rfl⟩ := hu
      have hlt : q % z.cells.size < z.cells.size := Nat.mod_lt _ (by omega)
      rw [getElem!_pos z.cells _ hlt]
      exact hz1 z (by rw [hi]; exact hz) _ (by simp)
    obtain ⟨gb, w', rfl, hrun, hst⟩ := St.storeRow (P := P) (Builtin.zeroCells z.cells (n - k)).toList (k * sz) hw' (by omega) (by omega) hzone
    have hcn : ¬ c = k := by
      obtain ⟨a', n', c', hv, -, hn, -⟩ := hw'.holds (row (.slice (some ⟨gb, 0, none⟩) n c) e sz xs) (by simp)
      simp at hv; omega
    have ha : subA (some ⟨gb, 0, none⟩) c k sz = some ⟨gb, k * sz, none⟩ := by simp only [subA]; rw [if_neg hcn]; simp only [Option.map_some, add_block, Nat.zero_add]
    rw [ha] at hs
    obtain ⟨q, hq⟩ : ∃ q, n - k = q + 1 := ⟨n - k - 1, by omega⟩
    have hzv : ∀ w, (zeroValue e).run P w = .ok z w := run_zeroValue_of (by rw [hi]; exact hz)
    have hrun2 : (execOp (ev σ) ⟨d, .call ⟨.builtin .clear, #[s], #[t]⟩, ty, pos, aft, g⟩).run P w = .ok (.value (.tuple #[])) w' := by
      rw [hq] at hs hrun
      simp only [execOp, resolve, List.map_toArray, List.map_cons, List.map_nil, invoke, builtin, Builtin.clear_, hs, List.getElem?_toArray, List.getElem?_cons_zero, Sem.run_bind, Sem.run_pure, run_underlying ht.ht, Result.andThen_ok, hzv, hrun]
    rw [hrun2]
    refine ⟨_, hk _ hzl, ?_⟩
    rw [hzl, show k * sz + (n - k) * sz = n * sz from by omega, List.drop_of_length_le (by omega), List.append_nil] at hst
    exact hst
end
end Go.Sx
