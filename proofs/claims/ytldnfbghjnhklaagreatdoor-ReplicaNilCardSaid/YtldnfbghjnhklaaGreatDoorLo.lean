/- Walks of package logs: names, records, what begins a segment. -/
import Derived.Test.YtldnfbghjnhklaaGreatDoorLi
import Derived.Test.YtldnfbghjnhklaaGreatDoorSha
namespace Go.Proofs.YtldnfbghjnhklaaGreatDoor
open Go.RowKit Go.Sx
set_option maxRecDepth 100000
set_option linter.unusedSimpArgs false
set_option linter.unusedVariables false
theorem Qt_slice_arrH {P : Program} {w0 : World} {σ : Env} {H : List SA} {d : Option Nat} {ty : TypeId} {pos : String} {aft : Array Edge} {g : Option (Nat × Bool)} {x hi : Operand} {t e n m b o : Nat} {i : TypeInfo} {k : IntKind} (hx : ev σ x = .pointer (some ⟨b, o, none⟩)) (hh : ev σ hi = .int k (m : Int)) (hu : P.underlying t = some (.array n e)) (hi' : P.info? e = some i) (hn : Nat.blt 0 n = true) (hm : m ≤ n) :
    Qt P w0 H σ ⟨d, .slice t x none (some hi) none, ty, pos, aft, g⟩ (.slice (some ⟨b, o, none⟩) m n) := fun w _ => by
  have h0 : n ≠ 0 := by simp only [Nat.blt_eq] at hn; omega
  have h1 : ¬ ((m : Int) < 0) := by omega
  have h2 : ¬ ((n : Int) < (m : Int)) := by omega
  simp only [execOp, hx, hh, Option.map_none, Option.map_some, Instr.sliceAt, Sem.run_bind, run_underlying hu, Result.andThen_ok, Instr.sureAddr, Sem.run_pure, Instr.sliceBounds, Instr.sliceBound, asIntOf, run_sizeOf_of hi', h0, if_false, Nat.zero_mul, Nat.sub_zero]
  simp [Addr.add, asIntOf, h1, h2, hm]
theorem RdB.hashPre {w0 : World} {H : List SA} {b n m : Nat} {T : TypeId} {fz : Nat × Nat} (x : Vector UInt8 n) (hm : Mem w0 H b (.cells (hlist x).toArray T fz)) (hmn : m ≤ n) (hn : n ≤ 1000) : RdB w0 H (.slice (some ⟨b, 0, none⟩) (x.toList.take m).length n) (x.toList.take m) :=
  ⟨fun w hw => ⟨_, _, _, rfl, by simp [bytesV], by simp; omega, by unfold maxLen; omega, fun _ => ⟨b, 0, rfl, fun j u hj => by
    rw [cell_of_blk (hm.get w hw)]
    have hj2 : (bytesV (x.toList.take m))[j]? = some u := hj
    rw [Nat.zero_add]
    unfold bytesV at hj2
    rw [List.map_take, List.getElem?_take] at hj2
    split at hj2
    · simpa [hlist, bytesV] using hj2
    · cases hj2⟩⟩⟩
/-- A row of one-cell values that is ours, from some place of its block on. -/
def rowOP (v : Value) (e : TypeId) (xs : List Value) (w : World) : Prop :=
  ∃ a c, v = .slice a xs.length c ∧ xs.length ≤ c ∧ c ≤ maxLen ∧ (a = none → c = 0) ∧ (c ≠ 0 → ∃ g o cur, a = some ⟨g, o, none⟩ ∧ w.heap[g]? = some (.cells cur e (0, 0)) ∧ o + c ≤ cur.size ∧ (cur.toList.drop o).take xs.length = xs)
def rowO (v : Value) (e : TypeId) (xs : List Value) : SA := ⟨rowFp v, rowOP v e xs, fun w w' h hp => by
  obtain ⟨a, c, hv, hn, hc, ha, hx⟩ := hp
  refine ⟨a, c, hv, hn, hc, ha, fun h0 => ?_⟩
  obtain ⟨g, o, cur, hg, hw, h1, h2⟩ := hx h0
  refine ⟨g, o, cur, hg, ?_, h1, h2⟩
  rw [h g (by subst hv; subst hg; simp [rowFp, h0])]; exact hw⟩
theorem rowOP.cells {v : Value} {e : TypeId} {xs : List Value} {w : World} (h : rowOP v e xs w) : CellsAt w v 1 xs := by
  obtain ⟨a, c, hv, hn, hc, ha, hx⟩ := h
  refine ⟨a, xs.length, c, hv, by omega, hn, hc, fun h0 => ?_⟩
  obtain ⟨g, o, cur, hg, hw, h1, h2⟩ := hx (by omega)
  refine ⟨g, o, hg, fun j u hj => ?_⟩
  rw [cell_of_blk hw]
  rw [← h2, List.getElem?_take] at hj
  split at hj
  · rw [List.getElem?_drop] at hj; simpa using hj
  · cases hj
instance RdC.ofRowO {w0 : World} {H : List SA} {v : Value} {e : TypeId} {xs : List Value} : RdC w0 (rowO v e xs :: H) v 1 xs := ⟨fun w hw => (hw.holds (rowO v e xs) (by simp) : rowOP v e xs w).cells⟩
theorem St.toO {w0 w : World} {H : List SA} {v : Value} {e : TypeId} {xs : List Value} (h : St w0 (row v e 1 xs :: H) w) : St w0 (rowO v e xs :: H) w :=
  h.turn rfl fun hp => by
    obtain ⟨a, n, c, hv, hl, hn, hc, ha, hx⟩ := (hp : rowP v e 1 xs w)
    have hnl : n = xs.length := by omega
    subst hnl
    refine ⟨a, c, hv, hn, hc, ha, fun h0 => ?_⟩
    obtain ⟨g, cur, hg, hw, h1, h2⟩ := hx h0
    exact ⟨g, 0, cur, hg, hw, by omega, by rw [List.drop_zero]; simpa using h2⟩
theorem rowFp_some {g o n c : Nat} (h : c ≠ 0) : rowFp (.slice (some ⟨g, o, none⟩) n c) = [g] := by simp [rowFp, h]
/-- All but the first. -/
theorem St.tailO {w0 w : World} {H : List SA} {a : Option Addr} {c : Nat} {e : TypeId} {x : Value} {xs : List Value} (h : St w0 (rowO (.slice a (x :: xs).length c) e (x :: xs) :: H) w) : St w0 (rowO (.slice (subA a c 1 1) xs.length (c - 1)) e xs :: H) w := by
  have hp : rowOP (.slice a (x :: xs).length c) e (x :: xs) w := h.holds (rowO (.slice a (x :: xs).length c) e (x :: xs)) (by simp)
  have hlo := h.lo (rowO (.slice a (x :: xs).length c) e (x :: xs)) (by simp)
  obtain ⟨a', c', hv, hn, hc, ha, hx⟩ := hp
  simp only [Value.slice.injEq, true_and] at hv
  obtain ⟨rfl, rfl⟩ := hv
  simp only [List.length_cons] at hn
  obtain ⟨g, o, cur, rfl, hg, hsz, htk⟩ := hx (by omega)
  have hfp : rowFp (.slice (some ⟨g, o, none⟩) (x :: xs).length c) = [g] := rowFp_some (by omega)
  have hgl : g < w.heap.size := (Array.getElem?_eq_some_iff.1 hg).1
  have htk2 : (cur.toList.drop (o + 1)).take xs.length = xs := by
    have h1 := congrArg (List.drop 1) htk
    rw [List.drop_take, List.drop_drop] at h1
    simpa using h1
  have hfp2 : ∀ b ∈ rowFp (.slice (subA (some ⟨g, o, none⟩) c 1 1) xs.length (c - 1)), b = g := by
    intro b hb
    by_cases hc1 : c = 1
    · subst hc1; simp [subA, rowFp] at hb
    · have he : subA (some ⟨g, o, none⟩) c 1 1 = some ⟨g, o + 1, none⟩ := by unfold subA; rw [if_neg hc1]; rfl
      rw [he, rowFp_some (by omega)] at hb
      simpa using hb
  refine h.swap rfl rfl rfl (Nat.le_refl _) (fun _ _ _ => rfl) ?_ ?_ (fun b hb => ?_)
  · by_cases hc1 : c = 1
    · subst hc1
      have hxs : xs = [] := List.eq_nil_of_length_eq_zero (by omega)
      subst hxs
      exact ⟨_, 0, rfl, Nat.le_refl _, by unfold maxLen; omega, (fun h => rfl), fun h => absurd rfl h⟩
    · have he : subA (some ⟨g, o, none⟩) c 1 1 = some ⟨g, o + 1, none⟩ := by unfold subA; rw [if_neg hc1]; rfl
      exact ⟨_, c - 1, by rw [he], by omega, by omega, (fun h => by cases h), fun _ => ⟨g, o + 1, cur, rfl, hg, by omega, htk2⟩⟩
  · show (rowFp _).Nodup
    by_cases hc1 : c = 1
    · subst hc1; simp [subA, rowFp]
    · have he : subA (some ⟨g, o, none⟩) c 1 1 = some ⟨g, o + 1, none⟩ := by unfold subA; rw [if_neg hc1]; rfl
      rw [he, rowFp_some (by omega)]; simp
  · have h1 := hfp2 b hb
    refine ⟨.inl ?_, by rw [h1]; exact hgl⟩
    show b ∈ rowFp (.slice (some ⟨g, o, none⟩) (x :: xs).length c)
    rw [hfp, h1]; simp
theorem run_append_room_o {P : Program} (w : World) (t ty e : TypeId) (i : TypeInfo) (ht : P.underlying t = some (.slice e)) (hi : P.info? e = some i) (g o sLen sCap : Nat) (cur : Array Value) (hg : w.heap[g]? = some (.cells cur e (0, 0)))
    (a : Addr) (m c : Nat) (news : List Value) (hl : news.length = m * i.size) (hnews : ∀ j u, news[j]? = some u → w.cell? (a.add j) = some u) (h1 : ∀ u ∈ news, u.oneCell' = true) (hroom : sLen + m ≤ sCap) (hfit : o + sLen * i.size + news.length ≤ cur.size) :
    (Builtin.append_ #[t, t] ty #[.slice (some ⟨g, o, none⟩) sLen sCap, .slice (some a) m c]).run P w = .ok (.slice (some ⟨g, o, none⟩) (sLen + m) sCap) (w.setRow g (cur.toList.take (o + sLen * i.size) ++ news ++ cur.toList.drop (o + sLen * i.size + news.length)).toArray) := by
  have hf := run_firstCells_some (P := P) w i.size m a m c news hl hnews
  have hst := run_storeCells_at P g (o + sLen * i.size) e news 0 cur w hg (by simpa using hfit) h1
  simp only [Nat.add_zero] at hst
  simp [Builtin.append_, run_underlying ht, sizeOf, typeInfo, hi, Builtin.lenOf, hroom, hf, Addr.add_lit, hst]
/-- One value more behind such a row. -/
theorem run_append_o {P : Program} {t ty e : TypeId} {i : TypeInfo} {z : Value} {bytes : Nat} (ht : P.underlying t = some (.slice e)) (hi : P.info? e = some i) (hz : i.zero = some z) (hsz : i.size = 1) (hby : i.bytes = bytes) (hzs : z.cells.size = 1) {w0 w : World} {H : List SA} {v x : Value} {xs news : List Value}
    (hw : St w0 (rowO v e xs :: H) w) (hx : CellsAt w x 1 news) (h1 : ∀ u ∈ news, u.oneCell' = true) (hnp : 0 < news.length) (h63 : xs.length + news.length ≤ 281474976710656) (hb : (xs.length + news.length) * bytes ≤ 140737488355328) :
    ∃ v' w', (Builtin.append_ #[t, t] ty #[v, x]).run P w = .ok v' w' ∧ St w0 (rowO v' e (xs ++ news) :: H) w' ∧ ∃ a c, v' = .slice a (xs ++ news).length c := by
  have hr : rowOP v e xs w := hw.holds (rowO v e xs) (by simp)
  obtain ⟨a, c, hv, hn, hc, ha, hcur⟩ := hr
  obtain ⟨xa, m, xc, hxv, hxl, hxm, hxc, hxcell⟩ := hx
  have hml : m = news.length := by omega
  subst hml
  subst hv; subst hxv; subst hby
  obtain ⟨sb, so, hsa, hscell⟩ := hxcell hnp
  subst hsa
  have hnewsAt : ∀ j u, news[j]? = some u → w.cell? ((⟨sb, so, none⟩ : Addr).add j) = some u := fun j u hj => by rw [add_block]; exact hscell j u hj
  by_cases hroom : xs.length + news.length ≤ c
  · obtain ⟨g, o, cur, rfl, hgw, hcs, htake⟩ := hcur (by omega)
    have hrun := run_append_room_o (P := P) w t ty e i ht hi g o xs.length c cur hgw ⟨sb, so, none⟩ news.length xc news (by rw [hsz, Nat.mul_one]) hnewsAt h1 hroom (by rw [hsz]; omega)
    rw [hsz, Nat.mul_one] at hrun
    have hgl : g < w.heap.size := (Array.getElem?_eq_some_iff.1 hgw).1
    refine ⟨_, _, hrun, ?_, _, _, by rw [List.length_append]⟩
    refine St.swap hw rfl rfl rfl (by simp) (fun k _ hk => setRow_other w g k _ (fun he => hk (by show k ∈ rowFp (.slice (some ⟨g, o, none⟩) xs.length c); rw [rowFp_some (by omega), he]; simp))) ?_ (by show (rowFp (.slice (some ⟨g, o, none⟩) (xs.length + news.length) c)).Nodup; rw [rowFp_some (by omega)]; simp) (fun b hb' => ?_)
    · refine ⟨_, _, by rw [List.length_append], by rw [List.length_append]; exact hroom, hc, (fun h => by cases h), fun _ => ⟨g, o, _, rfl, setRow_heap w g cur _ e _ hgw, ?_, ?_⟩⟩
      · simp only [List.size_toArray, List.length_append, List.length_take, List.length_drop, Array.length_toList]
        omega
      · have hlt : o ≤ (cur.toList.take (o + xs.length)).length := by rw [List.length_take]; have h9 : cur.toList.length = cur.size := Array.length_toList; exact Nat.le_min.2 ⟨by omega, by omega⟩
        rw [List.append_assoc, List.drop_append_of_le_length hlt, List.drop_take, show o + xs.length - o = xs.length by omega, htake, ← List.append_assoc]
        exact List.take_left
    · have hb2 : b ∈ rowFp (.slice (some ⟨g, o, none⟩) (xs.length + news.length) c) := hb'
      rw [rowFp_some (by omega)] at hb2
      obtain rfl : b = g := by simpa using hb2
      exact ⟨.inl (by show b ∈ rowFp (.slice (some ⟨b, o, none⟩) xs.length c); rw [rowFp_some (by omega)]; simp), by simpa using hgl⟩
  · have grown : St w0 (row (.slice (some ⟨w.heap.size, 0, none⟩) (xs.length + news.length) (grownCap w (xs.length + news.length) c e)) e 1 (xs ++ news) :: H) (w.drew.alloc (.cells (xs.toArray ++ news.toArray ++ Builtin.zeroCells z.cells (grownCap w (xs.length + news.length) c e - (xs.length + news.length))) e)) := by
      have hge := grownCap_ge w (xs.length + news.length) c e
      have hcm : grownCap w (xs.length + news.length) c e ≤ maxLen := grownCap_le_maxLen w (xs.length + news.length) c e (by unfold maxLen; omega)
      have h0 : grownCap w (xs.length + news.length) c e ≠ 0 := by omega
      refine St.fresh hw.tail rfl rfl rfl (by simp) (fun k hk => by show (w.heap.push _)[k]? = w.heap[k]?; rw [Array.getElem?_push, if_neg (by omega)]) ?_ ?_ ?_
      · refine ⟨_, _, _, rfl, by simp, hge, hcm, by simp, fun _ => ⟨_, _, rfl, heap_alloc_new w.drew _, ?_, ?_⟩⟩
        · simp only [Array.size_append, List.size_toArray, size_zeroCells, hzs]
          omega
        · simp only [Array.toList_append, List.append_assoc]
          rw [← List.append_assoc, Nat.mul_one, ← List.length_append]
          exact List.take_left
      · simp [row, rowFp, h0]
      · simp [row, rowFp, h0]
    cases a with
    | none =>
      have hc0 : c = 0 := ha rfl
      subst hc0
      have hxs : xs = [] := List.eq_nil_of_length_eq_zero (by omega)
      subst hxs
      have hrun := run_append_nil (P := P) w t ty e i z ht hi hz ⟨sb, so, none⟩ news.length xc news (by rw [hsz, Nat.mul_one]) hnewsAt hnp (by simp at h63; omega) (by simp at hb; omega)
      refine ⟨_, _, hrun, ?_, _, _, rfl⟩
      have := St.toO grown
      simpa using this
    | some ad =>
      have holds : ∀ j u, xs[j]? = some u → w.cell? (ad.add j) = some u := by
        intro j u hj
        have hc0 : c ≠ 0 := by
          rintro rfl
          have : xs = [] := List.eq_nil_of_length_eq_zero (by omega)
          subst this; simp at hj
        obtain ⟨g, o, cur, hg, hgw, hcs, htake⟩ := hcur hc0
        obtain rfl : ad = ⟨g, o, none⟩ := by simpa using hg
        rw [add_block, cell_of_blk hgw]
        rw [← htake, List.getElem?_take] at hj
        split at hj
        · rw [List.getElem?_drop] at hj; simpa using hj
        · cases hj
      have hrun := run_append_grow (P := P) w t ty e i z ht hi hz ad xs.length c xs (by rw [hsz, Nat.mul_one]) holds ⟨sb, so, none⟩ news.length xc news (by rw [hsz, Nat.mul_one]) hnewsAt (by omega) (by omega) (growslice_fits (by omega) (by rw [← List.length_append] at hb ⊢; exact hb))
      exact ⟨_, _, hrun, St.toO grown, _, _, by rw [List.length_append]⟩
theorem Ef_appendO {P : Program} {w0 : World} {σ : Env} {H : List SA} {d : Option Nat} {ty : TypeId} {pos : String} {aft : Array Edge} {g : Option (Nat × Bool)} {K : Value → List SA → Prop} {s x : Operand} {t e bytes : Nat} {sv xv : Value} {xs news : List Value} (Hr : List SA) (hs : ev σ s = sv) (hx : ev σ x = xv) [ht : TySl P t e 1 bytes] (hr : ∀ w, St w0 H w → St w0 (rowO sv e xs :: Hr) w) [hn : RdC w0 H xv 1 news]
    (h1 : ∀ u ∈ news, u.oneCell' = true) (hnp : 0 < news.length) (hb : xs.length + news.length ≤ 4294967296) (hby : Nat.ble bytes 32768 = true)
    (h : ∀ a c, K (.slice a (xs ++ news).length c) (rowO (.slice a (xs ++ news).length c) e (xs ++ news) :: Hr)) : Ef P w0 H σ ⟨d, .call ⟨.builtin .append, #[s, x], #[t, t]⟩, ty, pos, aft, g⟩ K := fun w hw => by
  obtain ⟨i, z, hi, hz, hsz, hby', hzs⟩ := ht.spec
  have hby2 := Nat.le_of_ble_eq_true hby
  obtain ⟨v', w', hrun, hw', a, c, rfl⟩ := run_append_o (ty := ty) ht.ht hi hz hsz hby' hzs (hr w hw) (hn.rd w hw) h1 hnp (by omega) (by
    calc (xs.length + news.length) * bytes ≤ 4294967296 * 32768 := Nat.mul_le_mul hb hby2
      _ ≤ 140737488355328 := by decide)
  have : (execOp (ev σ) ⟨d, .call ⟨.builtin .append, #[s, x], #[t, t]⟩, ty, pos, aft, g⟩).run P w = .ok (.value (.slice a (xs ++ news).length c)) w' := by
    simp [execOp, resolve, invoke, builtin, hs, hx, hrun]
  rw [this]
  exact ⟨_, h a c, hw'⟩
@[reducible] def encN (n : Nat) : List Value := [.int .i64 (n : Int)]
theorem encN_get (l : List Nat) (i : Nat) (h : i < l.length) : (l.flatMap encN)[i]? = some (.int .i64 (l[i] : Int)) := by
  have := flat_get encN 1 (fun _ => rfl) l i 0 h (by decide)
  simpa using this
theorem encN_len (l : List Nat) : (l.flatMap encN).length = l.length := by have := flat_len encN 1 (fun _ => rfl) l; simpa using this
@[reducible] def encI (n : Nat) : Value := .int .i64 (n : Int)
theorem enc_map (l : List Nat) : l.flatMap encN = l.map encI := by
  induction l with
  | nil => rfl
  | cons x l ih => rw [List.flatMap_cons, ih]; rfl
theorem encI_get (l : List Nat) (i : Nat) (h : i < l.length) : (l.map encI)[i]? = some (.int .i64 (l[i] : Int)) := by simp [h]
/-- A log, as far as it is not its disk. -/
structure LS where
  ga : Option Addr
  gc : Nat
  segs : List Nat
  siz : Nat
  nx : Nat
  bg : Bool
@[reducible] def lblk (lp p : Nat) (pre : ByteArray) (t : LS) : SA := blk lp (.cells (LogV.mk (some ⟨p, 0, none⟩) pre ⟨t.ga, t.segs.length, t.gc⟩ (t.siz : Int) (t.nx : Int) t.bg).cells 268 (0, 0))
@[reducible] def lrow (t : LS) : SA := rowO (.slice t.ga t.segs.length t.gc) 3 (t.segs.map encI)
def dotB : ByteArray := ⟨#[46]⟩
def nmB (pre : ByteArray) (i : Nat) : ByteArray := pre ++ dotB ++ ⟨(Lib.decDigits i).toArray⟩
/-- A record's bytes. -/
def toldB (n : Nat) (l : List UInt8) : List UInt8 := packed n ++ packed l.length ++ l ++ (sha (packed n ++ packed l.length ++ l)).toList.take 8
def recsB : Nat → List (List UInt8) → List UInt8
  | _, [] => []
  | n, l :: ls => toldB n l ++ recsB (n + 1) ls
theorem recsB_app (ls ms : List (List UInt8)) : ∀ n, recsB n (ls ++ ms) = recsB n ls ++ recsB (n + ls.length) ms := by
  induction ls with
  | nil => intro n; rfl
  | cons l ls ih => intro n; simp only [List.cons_append, recsB, ih, List.append_assoc, List.length_cons]; congr 3; omega
theorem toldB_len (n : Nat) (hn : n < 18446744073709551616) (l : List UInt8) (hl : l.length ≤ 4294967000) : (toldB n l).length ≤ l.length + 28 ∧ 8 ≤ (toldB n l).length := by
  have h1 := packed_length_le n (by omega)
  have h2 := packed_length_le l.length (by omega)
  unfold toldB
  simp only [List.length_append, List.length_take, Vector.length_toList]
  omega
theorem recsB_len (ls : List (List UInt8)) : ∀ n, n + ls.length < 18446744073709551616 → (∀ l ∈ ls, l.length ≤ 1000) → (recsB n ls).length ≤ 1028 * ls.length := by
  induction ls with
  | nil => intro n _ _; simp [recsB]
  | cons l ls ih =>
    intro n hn hl
    have h1 := toldB_len n (by simp at hn; omega) l (by have := hl l (by simp); omega)
    have h2 := ih (n + 1) (by simp at hn; omega) (fun x hx => hl x (by simp [hx]))
    have h3 := hl l (by simp)
    simp only [recsB, List.length_append, List.length_cons]; omega
def lastN (l : List Nat) : Nat := l.getLastD 0
theorem last_get {l : List Nat} (h : 0 < l.length) : (l.map encI)[((l.length : Int) - 1).toNat]? = some (.int .i64 ((lastN l : Nat) : Int)) := by
  have e : ((l.length : Int) - 1).toNat = l.length - 1 := by omega
  rw [e, encI_get l (l.length - 1) (by omega)]
  unfold lastN
  rw [List.getLastD_eq_getLast?, List.getLast?_eq_getElem?, List.getElem?_eq_getElem (by omega)]
  rfl
def newN (l : List Nat) : Nat := if l.length = 0 then 1 else lastN l + 1
/-- What a segment that is begun with records leaves. -/
def BeginR (pre : ByteArray) (s : DS) (t : LS) (ls : List (List UInt8)) (s' : DS) (t' : LS) (e : Int) : Prop :=
  AppR 2 (oldE s.e2 (nmB pre (newN t.segs))).l.length s (nmB pre (newN t.segs)) (recsB t.nx ls) s' e ∧ (e ≠ 0 → t' = t) ∧
  (e = 0 → t'.segs = t.segs ++ [newN t.segs] ∧ t'.siz = (recsB t.nx ls).length ∧ t'.nx = t.nx + ls.length ∧ t'.bg = t.bg)
attribute [local irreducible] sha
theorem str_add {a b : ByteArray} (h : a.size + b.size ≤ 1000000) : Op.stringOp .add a b = pure (.string (a ++ b)) := by
  have : ¬ (((a.size + b.size : Nat) : Int) > IntKind.i64.max) := by show ¬ ((9223372036854775807 : Int) < _); omega
  simp only [Op.stringOp, if_neg this]
theorem nm_size (i : Nat) (hi : i < 100) : (⟨(Lib.decDigits i).toArray⟩ : ByteArray).size ≤ 2 := by
  show (Lib.decDigits i).toArray.size ≤ 2
  by_cases h : i < 10
  · rw [Lib.decDigits_one h]; simp
  · rw [Lib.decDigits_two h hi]; simp
set_option maxHeartbeats 1000000 in
theorem name_c {w0 : World} {H : List SA} {lp p : Nat} {pre : ByteArray} {t : LS} (hp : pre.size ≤ 1000) {i : Nat} (hi : i < 100) :
    CT Tryz.prog w0 (lblk lp p pre t :: H) 161 [.pointer (some ⟨lp, 0, none⟩), .int .i64 (i : Int)] (α := Unit) (fun _ => .string (nmB pre i)) (fun _ => lblk lp p pre t :: H) := by
  refine CT_intro Tryz.func161 rfl Tryz.ntmps161 rfl ?_
  refine T_seq ?_
  refine T_region ?_
  refine TL_q (Qt_assign (.string _) rfl) rfl ?_
  refine TL_nil ?_
  refine X_then ?_
  refine T_seq ?_
  refine T_draw _ [(0, true), (1, true), (2, true), (3, true), (4, true), (5, true), (6, false), (7, true), (8, true)] (by kernel_rfl) (by kernel_rfl) rfl (by kernel_rfl) (fun _ hh => hh) (fun hns0 => ?_)
  refine DL_q hns0 rfl (Qt_move (.pointer _) rfl) rfl ?_
  refine DL_q hns0 rfl (Qt_nilCheck rfl) rfl ?_
  refine DL_q hns0 rfl (Qt_fieldAddr 1 rfl rfl) rfl ?_
  refine DL_q hns0 rfl (Qt_load1 rfl) rfl ?_
  refine DL_q hns0 rfl (Qt_str_op (v := .string (pre ++ dotB)) rfl rfl (str_add (b := dotB) (by have : dotB.size = 1 := rfl; omega))) rfl ?_
  refine DL_q hns0 rfl (Qt_move (.int .i64 _) rfl) rfl ?_
  refine DL_e rfl rfl (Ef_call (itoa_c hi) rfl (fun x11 => ⟨(Subs.st inferInstance), ?_⟩))
  refine DL_q hns0 rfl (Qt_str_op (v := .string (nmB pre i)) rfl rfl (str_add (by have h1 := nm_size i hi; have h2 : dotB.size = 1 := rfl; rw [ByteArray.size_append, h2]; show _ + (⟨(Lib.decDigits i).toArray⟩ : ByteArray).size ≤ _; omega))) rfl ?_
  refine DL_q hns0 rfl (Qt_assign (.string _) rfl) rfl ?_
  refine DL_nil ?_
  refine X_then ?_
  refine T_ret ?_
  exact X_ret () [_] Tryz.results161 ⟨rfl, trivial⟩ rfl (Subs.st inferInstance)
set_option maxHeartbeats 1000000 in
theorem told_c {w0 : World} {H : List SA} {n : Nat} (hn : n < 18446744073709551616) {b : BS} [rb : RdB w0 H (.slice b.a b.l.length b.c) b.l] (hl : b.l.length ≤ 1000000) :
    CT Tryz.prog w0 (H) 273 [.int .u64 (n : Int), .slice b.a b.l.length b.c] (α := AC) (fun y => .slice y.a (toldB n b.l).length y.c) (fun y => row (.slice y.a (toldB n b.l).length y.c) 5 1 (bytesV (toldB n b.l)) :: H) := by
  refine CT_intro Tryz.func273 rfl Tryz.ntmps273 rfl ?_
  refine T_seq ?_
  refine T_region ?_
  refine TL_q (Qt_assign (.slice _ _ _) rfl) rfl ?_
  refine TL_nil ?_
  refine X_then ?_
  refine T_seq ?_
  refine T_region ?_
  refine TL_q (Qt_move (.int .u64 _) rfl) rfl ?_
  have hp1 := packed_length_le n (by omega)
  have hp2 := packed_length_le b.l.length (by omega)
  refine TL_e rfl (Ef_call (putPacked_c (a := none) (l := []) (c := 0) (x := (n : Int)) (hr := RdB.nil') (by simp) (by omega) (by omega)) rfl (fun x8 => ?_))
  rw [List.nil_append, Int.toNat_natCast]
  refine TL_q (Qt_move (.slice _ _ _) rfl) rfl ?_
  refine TL_e rfl (Ef_call (putText_c (l := packed n) (l2 := b.l) (by omega) (by omega)) rfl (fun x10 => ?_))
  refine TL_q (Qt_assign (.slice _ _ _) rfl) rfl ?_
  refine TL_nil ?_
  refine X_then ?_
  refine T_seq ?_
  refine T_region ?_
  refine TL_q (Qt_move (.slice _ _ _) rfl) rfl ?_
  refine TL_e rfl (Ef_call (sum_c (l := (packed n ++ packed b.l.length ++ b.l)) (by simp only [List.length_append]; omega)) rfl (fun x12 => ?_))
  refine TL_e rfl (Ef_allocN (fun b6 => ?_))
  refine TL_n (Ef_storeN rfl rfl (?_))
  refine TL_nil ?_
  refine X_then ?_
  refine T_seq ?_
  refine T_region ?_
  refine TL_q (Qt_move (.slice _ _ _) rfl) rfl ?_
  refine TL_q (Qt_val (Qt_slice_arrH (m := 8) rfl rfl Tryz.underlying45 rfl rfl (by decide)) (show Value.slice (some ⟨b6, 0, none⟩) 8 32 = .slice (some ⟨b6, 0, none⟩) ((sha (packed n ++ packed b.l.length ++ b.l)).toList.take 8).length 32 from by simp)) rfl ?_
  refine TL_e rfl (Ef_appendB (sv := .slice _ _ _) (xv := .slice _ _ _) (hn := RdB.hashPre (sha (packed n ++ packed b.l.length ++ b.l)) inferInstance (by decide) (by decide)) (l := (packed n ++ packed b.l.length ++ b.l)) rfl rfl (by simp only [List.length_append, List.length_take, Vector.length_toList]; omega) rfl (fun a15 c15 => ?_))
  rw [show (packed n ++ packed b.l.length ++ b.l) ++ (sha (packed n ++ packed b.l.length ++ b.l)).toList.take 8 = toldB n b.l from rfl]
  refine TL_q (Qt_assign (.slice _ _ _) rfl) rfl ?_
  refine TL_nil ?_
  refine X_then ?_
  refine T_ret ?_
  exact X_ret ⟨a15, c15⟩ [_] Tryz.results273 ⟨rfl, trivial⟩ rfl (Subs.st inferInstance)
theorem recs_step {n k : Nat} {rs : List BS} (hk : k < rs.length) : recsB n ((rs.map BS.l).take k) ++ toldB (n + k) rs[k].l = recsB n ((rs.map BS.l).take (k + 1)) := by
  rw [List.take_add_one, List.getElem?_eq_getElem (by simpa using hk), recsB_app]
  simp only [List.length_take, List.length_map, Option.toList, recsB, List.getElem_map, List.append_nil]
  rw [Nat.min_eq_left (by omega)]
theorem recs_len (n : Nat) (rs : List BS) (k : Nat) (hn : n ≤ 1000000) (hr : rs.length ≤ 9) (h : ∀ x ∈ rs, x.l.length ≤ 1000) : (recsB n ((rs.map BS.l).take k)).length ≤ 10000 := by
  have h1 := recsB_len ((rs.map BS.l).take k) n (by simp; omega) (fun l hl => by
    obtain ⟨x, hx, rfl⟩ := List.mem_map.1 (List.mem_of_mem_take hl)
    exact h x hx)
  have h2 : ((rs.map BS.l).take k).length ≤ 9 := by simp; omega
  omega
theorem recs0 (n : Nat) (l : List (List UInt8)) : recsB n (l.take 0) = [] := rfl
attribute [local irreducible] toldB recsB nmB lastN
set_option maxHeartbeats 1000000 in
theorem begin0_c {w0 : World} {H : List SA} {lp p : Nat} {pre : ByteArray} {t : LS} {s : DS} {M K : Nat} (hok : s.Ok M K) (hM : M ≤ 1000000) (hK : K ≤ 1000000000) (hK2 : 10000 ≤ K) (hp : pre.size ≤ 1000) (hsl : t.segs.length ≤ 1000) (hs : t.segs.length = 0) {ra : Option Addr} {rc : Nat} {rs : List BS} [rk : RdC w0 H (.slice ra rs.length rc) 1 (rs.map BS.val)] [rke : RdE w0 H rs] (hr8 : rs.length ≤ 9) (hrl : ∀ x ∈ rs, x.l.length ≤ 1000) (hnx : t.nx ≤ 1000000) :
    CT Tryz.prog w0 (lblk lp p pre t :: lrow t :: DS.H p s H) 272 [.pointer (some ⟨lp, 0, none⟩), .slice ra rs.length rc] (α := DS × LS × Int) (fun y => .int .i64 y.2.2) (fun y => pu (BeginR pre s t (rs.map BS.l) y.1 y.2.1 y.2.2) :: lblk lp p pre y.2.1 :: lrow y.2.1 :: DS.H p y.1 H) := by
  refine CT_intro Tryz.func272 rfl Tryz.ntmps272 rfl ?_
  refine T_seq ?_
  refine T_region ?_
  refine TL_q (Qt_assign (.int .i64 _) rfl) rfl ?_
  refine TL_nil ?_
  refine X_then ?_
  refine T_seq ?_
  refine T_region ?_
  refine TL_q (Qt_assign (.int .i64 _) rfl) rfl ?_
  refine TL_nil ?_
  refine X_then ?_
  refine T_seq ?_
  refine T_seq ?_
  refine T_region ?_
  refine TL_q (Qt_move (.pointer _) rfl) rfl ?_
  refine TL_q (Qt_nilCheck rfl) rfl ?_
  refine TL_q (Qt_fieldAddr 2 rfl rfl) rfl ?_
  refine TL_q (Qt_load1 rfl) rfl ?_
  refine TL_q (Qt_len_slice rfl Tryz.underlying183) rfl ?_
  refine TL_q (Qt_assign (.int .i64 _) rfl) rfl ?_
  refine TL_nil ?_
  refine X_then ?_
  refine T_seq ?_
  refine T_region ?_
  refine TL_q (Qt_move (.int .i64 _) rfl) rfl ?_
  refine TL_q (Qt_gtr rfl rfl) rfl ?_
  refine TL_nil ?_
  refine X_then ?_
  refine T_cond rfl (fun h18 => ?_) (fun h18 => ?_)
  ·
    have p18 := h18
    try simp only [decide_eq_true_eq, decide_eq_false_iff_not, Bool.not_eq_true', Bool.not_eq_false', Option.isNone_iff_eq_none, ne_eq, Decidable.not_not, Int.not_lt, Int.not_le] at p18
    exact absurd p18 (by omega)
  ·
    have p18 := h18
    try simp only [decide_eq_true_eq, decide_eq_false_iff_not, Bool.not_eq_true', Bool.not_eq_false', Option.isNone_iff_eq_none, ne_eq, Decidable.not_not, Int.not_lt, Int.not_le] at p18
    refine T_skip ?_
    refine X_then ?_
    refine T_seq ?_
    refine T_region ?_
    refine TL_q (Qt_assign (.slice _ _ _) rfl) rfl ?_
    refine TL_nil ?_
    refine X_then ?_
    refine T_seq ?_
    refine T_region ?_
    refine TL_q (Qt_move (.pointer _) rfl) rfl ?_
    refine TL_q (Qt_nilCheck rfl) rfl ?_
    refine TL_q (Qt_fieldAddr 4 rfl rfl) rfl ?_
    refine TL_q (Qt_load1 rfl) rfl ?_
    refine TL_q (Qt_assign (.int .u64 _) rfl) rfl ?_
    refine TL_nil ?_
    refine X_then ?_
    refine T_seq ?_
    refine T_seq ?_
    refine T_region ?_
    refine TL_q (Qt_move (.slice _ _ _) rfl) rfl ?_
    refine TL_q (Qt_len_slice rfl Tryz.underlying46) rfl ?_
    refine TL_q (Qt_move (.int .i64 _) rfl) rfl ?_
    refine TL_nil ?_
    refine X_then ?_
    refine T_block ?_
    refine T_loop [7, 8, 10, 34, 35, 36, 37, 38, 39, 40, 41, 42, 43, 44, 45] [34, 7, 8] (fun us H' => ∃ (k : Nat) (ba : Option Addr) (bc : Nat), us = [.int .i64 (k : Int), .slice ba (recsB t.nx ((rs.map BS.l).take k)).length bc, .int .u64 ((t.nx + k : Nat) : Int)] ∧ row (.slice ba (recsB t.nx ((rs.map BS.l).take k)).length bc) 5 1 (bytesV (recsB t.nx ((rs.map BS.l).take k))) :: lblk lp p pre t :: lrow t :: DS.H p s H = H' ∧ k ≤ rs.length) (fun us => match us with | .int _ i :: _ => rs.length - i.toNat | _ => 0) ⟨0, none, 0, by rw [recs0]; rfl, rfl, by omega⟩ (fun w hw => by rw [recs0]; exact (Subs.st inferInstance w hw : St w0 (lblk lp p pre t :: lrow t :: DS.H p s H) w).addNilB 5) ?_
    rintro τ0 _ _  ⟨k, ba, bc, rfl, rfl, hk0⟩ _
    refine T_seq ?_
    refine T_region ?_
    refine TL_q (Qt_lss rfl rfl) rfl ?_
    refine TL_nil ?_
    refine X_then ?_
    refine T_seq ?_
    refine T_cond rfl (fun h35 => ?_) (fun h35 => ?_)
    ·
      have p35 := h35
      try simp only [decide_eq_true_eq, decide_eq_false_iff_not, Bool.not_eq_true', Bool.not_eq_false', Option.isNone_iff_eq_none, ne_eq, Decidable.not_not, Int.not_lt, Int.not_le] at p35
      have hk : k < rs.length := by omega
      refine T_skip ?_
      refine X_then ?_
      refine T_seq ?_
      refine T_block ?_
      refine T_seq ?_
      refine T_region ?_
      refine TL_q (Qt_indexR rfl rfl (by omega) (by simp; omega)) rfl ?_
      refine TL_q (Qt_loadR (.slice _ _ _) rfl (vals_get _ _ hk)) rfl ?_
      refine TL_q (Qt_assign (.slice _ _ _) rfl) rfl ?_
      refine TL_nil ?_
      refine X_then ?_
      refine T_seq ?_
      refine T_region ?_
      refine TL_q (Qt_move (.slice _ _ _) rfl) rfl ?_
      refine TL_q (Qt_move (.int .u64 _) rfl) rfl ?_
      refine TL_q (Qt_move (.slice _ _ _) rfl) rfl ?_
      have : RdB w0 H (.slice rs[k].a rs[k].l.length rs[k].c) rs[k].l := rke.get (List.getElem_mem hk)
      refine TL_e rfl (Ef_call (told_c (n := t.nx + k) (by omega) (b := rs[k]) (by have := hrl _ (List.getElem_mem hk); omega)) rfl (fun x41 => ?_))
      refine TL_e rfl (Ef_appendB (sv := .slice _ _ _) (xv := .slice _ _ _) (l := recsB t.nx ((rs.map BS.l).take k)) (l' := toldB (t.nx + k) rs[k].l) rfl rfl (by have h1 := recs_len t.nx rs k (by omega) (by omega) hrl; have h2 := (toldB_len (t.nx + k) (by omega) rs[k].l (by have := hrl _ (List.getElem_mem hk); omega)).1; have := hrl _ (List.getElem_mem hk); omega) rfl (fun a42 c42 => ?_))
      rw [show recsB t.nx ((rs.map BS.l).take k) ++ toldB (t.nx + k) rs[k].l = recsB t.nx ((rs.map BS.l).take (k + 1)) from recs_step hk]
      refine TL_q (Qt_assign (.slice _ _ _) rfl) rfl ?_
      refine TL_nil ?_
      refine X_then ?_
      refine T_region ?_
      refine TL_q (Qt_move (.int .u64 _) rfl) rfl ?_
      refine TL_q (Qt_val (Qt_addw rfl rfl) (congrArg (Value.int .u64) (show IntKind.u64.wrap (((t.nx + k : Nat) : Int) + 1) = ((t.nx + (k + 1) : Nat) : Int) from wrap_u64 (by omega) (by omega)))) rfl ?_
      refine TL_q (Qt_assign (.int .u64 _) rfl) rfl ?_
      refine TL_nil ?_
      refine X_block ?_
      refine X_then ?_
      refine T_region ?_
      first
        | refine TL_q (Qt_add rfl rfl (by omega) (by omega)) rfl ?_
        | refine TL_q (Qt_addw rfl rfl) rfl ?_
      refine TL_q (Qt_move (.int .i64 _) rfl) rfl ?_
      refine TL_nil ?_
      apply X_loop
      case ha => exact (by repeat (first | with_reducible exact agree_refl | refine agree_upd rfl ?_ | refine agree_mix rfl ?_ | refine agree_setAll rfl ?_))
      case hI => exact ⟨k + 1, a42, c42, rfl, rfl, by omega⟩
      case hm => exact by show rs.length - (k + 1 : Int).toNat < rs.length - (k : Int).toNat; omega
      case hH => exact (Subs.st inferInstance)
    ·
      have p35 := h35
      try simp only [decide_eq_true_eq, decide_eq_false_iff_not, Bool.not_eq_true', Bool.not_eq_false', Option.isNone_iff_eq_none, ne_eq, Decidable.not_not, Int.not_lt, Int.not_le] at p35
      have hkn : k = rs.length := by omega
      have htk : (rs.map BS.l).take k = (rs.map BS.l) := List.take_of_length_le (by simp; omega)
      rw [htk, hkn]
      have hbl := recsB_len (rs.map BS.l) t.nx (by simp; omega) (fun l hl => by obtain ⟨x, hx, rfl⟩ := List.mem_map.1 hl; exact hrl x hx)
      rw [List.length_map] at hbl
      refine T_exit ?_
      refine X_then_exit ?_
      refine X_loop_exit ?_
      refine X_block_exit ?_
      refine X_then ?_
      refine T_seq ?_
      refine T_seq ?_
      refine T_draw (row (.slice ba (recsB t.nx (rs.map BS.l)).length bc) 5 1 (bytesV (recsB t.nx (rs.map BS.l))) :: lblk lp p pre t :: lrow t :: H) [(0, true), (1, true), (2, true), (3, true), (4, true), (5, true), (7, true), (6, false), (8, false), (9, true)] (by kernel_rfl) (by kernel_rfl) rfl (by kernel_rfl) (Subs.st inferInstance) (fun hns0 => ?_)
      refine DL_q hns0 rfl (Qt_move (.pointer _) rfl) rfl ?_
      refine DL_q hns0 rfl (Qt_nilCheck rfl) rfl ?_
      refine DL_q hns0 rfl (Qt_fieldAddr 0 rfl rfl) rfl ?_
      refine DL_q hns0 rfl (Qt_load1 rfl) rfl ?_
      refine DL_q hns0 rfl (Qt_move (.pointer _) rfl) rfl ?_
      refine DL_q hns0 rfl (Qt_move (.int .i64 _) rfl) rfl ?_
      refine DL_q hns0 rfl (Qt_move (.slice _ _ _) rfl) rfl ?_
      refine DL_frontA (lblk lp p pre t) ?_
      refine DL_e rfl rfl (Ef_call (name_c (t := t) hp (i := 1) (by omega)) rfl (fun x52 => ⟨(Subs.st inferInstance), ?_⟩))
      refine DL_conv (fun w hw => (Subs.st inferInstance w hw : St w0 (DS.H p s (row (.slice ba (recsB t.nx (rs.map BS.l)).length bc) 5 1 (bytesV (recsB t.nx (rs.map BS.l))) :: lblk lp p pre t :: lrow t :: H)) w)) ?_
      refine DL_e rfl rfl (Ef_call (write_c (s := s) hok hM (by omega) (b := ⟨ba, bc, (recsB t.nx (rs.map BS.l))⟩) (by show (recsB t.nx (rs.map BS.l)).length ≤ 100000; omega) (by show (recsB t.nx (rs.map BS.l)).length ≤ K; omega)) rfl (fun x54 => ⟨(Subs.st inferInstance), ?_⟩))
      refine DL_pure (fun hw54 => ?_)
      refine DL_q hns0 rfl (Qt_assign (.int .i64 _) rfl) rfl ?_
      refine DL_nil ?_
      refine X_then ?_
      refine T_seq ?_
      refine T_region ?_
      refine TL_q (Qt_move (.int .i64 _) rfl) rfl ?_
      refine TL_q (Qt_neq rfl rfl) rfl ?_
      refine TL_nil ?_
      refine X_then ?_
      refine T_cond rfl (fun h56 => ?_) (fun h56 => ?_)
      ·
        have p56 := h56
        try simp only [decide_eq_true_eq, decide_eq_false_iff_not, Bool.not_eq_true', Bool.not_eq_false', Option.isNone_iff_eq_none, ne_eq, Decidable.not_not, Int.not_lt, Int.not_le] at p56
        refine T_seq ?_
        refine T_region ?_
        refine TL_q (Qt_move (.int .i64 _) rfl) rfl ?_
        refine TL_q (Qt_assign (.int .i64 _) rfl) rfl ?_
        refine TL_nil ?_
        refine X_then ?_
        refine T_ret ?_
        refine X_then_ret ?_
        have e2 : newN t.segs = 1 := if_pos hs
        exact X_ret (x54.1, t, x54.2) [_] Tryz.results272 ⟨rfl, trivial⟩ rfl (fun w hw => (Subs.st inferInstance w hw : St w0 (lblk lp p pre t :: lrow t :: DS.H p x54.1 H) w).addPure ⟨by rw [e2]; exact hw54, fun _ => rfl, fun h => absurd h p56⟩)
      ·
        have p56 := h56
        try simp only [decide_eq_true_eq, decide_eq_false_iff_not, Bool.not_eq_true', Bool.not_eq_false', Option.isNone_iff_eq_none, ne_eq, Decidable.not_not, Int.not_lt, Int.not_le] at p56
        refine T_skip ?_
        refine X_then ?_
        refine T_seq ?_
        refine T_region ?_
        refine TL_q (Qt_move (.pointer _) rfl) rfl ?_
        refine TL_q (Qt_move (.pointer _) rfl) rfl ?_
        refine TL_q (Qt_nilCheck rfl) rfl ?_
        refine TL_q (Qt_fieldAddr 2 rfl rfl) rfl ?_
        refine TL_q (Qt_load1 rfl) rfl ?_
        refine TL_q (Qt_move (.int .i64 _) rfl) rfl ?_
        refine TL_e rfl (Ef_slice1 (v := .int .i64 ((1 : Nat) : Int)) rfl (fun a64 c64 => ?_))
        refine TL_e rfl (Ef_appendO (lblk lp p pre t :: DS.H p x54.1 H) (sv := .slice _ _ _) (xv := .slice _ _ _) (xs := t.segs.map encI) (news := [.int .i64 ((1 : Nat) : Int)]) rfl rfl (fun w hw => (Subs.st inferInstance w hw)) (fun u hu => by obtain rfl : u = _ := (by simpa using hu); rfl) (by simp) (by simp; omega) rfl (fun a65 c65 => ?_))
        rw [show t.segs.map encI ++ [.int .i64 ((1 : Nat) : Int)] = (t.segs ++ [1]).map encI from by rw [List.map_append]; rfl, List.length_map]
        refine TL_q (Qt_nilCheck rfl) rfl ?_
        refine TL_q (Qt_fieldAddr 2 rfl rfl) rfl ?_
        refine TL_n (Ef_store1 (.slice _ _ _) rfl rfl (?_))
        refine TL_nil ?_
        refine X_then ?_
        refine T_seq ?_
        refine T_region ?_
        refine TL_q (Qt_move (.pointer _) rfl) rfl ?_
        refine TL_q (Qt_move (.pointer _) rfl) rfl ?_
        refine TL_q (Qt_move (.slice _ _ _) rfl) rfl ?_
        refine TL_q (Qt_len_slice rfl Tryz.underlying22) rfl ?_
        refine TL_q (Qt_move (.int .u64 _) rfl) rfl ?_
        refine TL_q (Qt_nilCheck rfl) rfl ?_
        refine TL_q (Qt_fieldAddr 3 rfl rfl) rfl ?_
        refine TL_n (Ef_store1 (.int .i64 _) rfl rfl (?_))
        refine TL_q (Qt_nilCheck rfl) rfl ?_
        refine TL_q (Qt_fieldAddr 4 rfl rfl) rfl ?_
        refine TL_n (Ef_store1 (.int .u64 _) rfl rfl (?_))
        refine TL_nil ?_
        refine X_then ?_
        refine T_seq ?_
        refine T_region ?_
        refine TL_q (Qt_assign (.int .i64 _) rfl) rfl ?_
        refine TL_nil ?_
        refine X_then ?_
        refine T_ret ?_
        have e2 : newN t.segs = 1 := if_pos hs
        have h0 : x54.2 = 0 := by omega
        exact X_ret (x54.1, (⟨a65, c65, t.segs ++ [1], (recsB t.nx (rs.map BS.l)).length, t.nx + rs.length, t.bg⟩ : LS), x54.2) [_] Tryz.results272 ⟨rfl, trivial⟩ (by rw [h0]; rfl) (fun w hw => (Subs.st inferInstance w hw : St w0 (lblk lp p pre (⟨a65, c65, t.segs ++ [1], (recsB t.nx (rs.map BS.l)).length, t.nx + rs.length, t.bg⟩ : LS) :: lrow (⟨a65, c65, t.segs ++ [1], (recsB t.nx (rs.map BS.l)).length, t.nx + rs.length, t.bg⟩ : LS) :: DS.H p x54.1 H) w).addPure ⟨by rw [e2]; exact hw54, fun h => absurd h0 h, fun _ => ⟨by rw [e2], rfl, by rw [List.length_map], rfl⟩⟩)
set_option maxHeartbeats 1000000 in
theorem begin1_c {w0 : World} {H : List SA} {lp p : Nat} {pre : ByteArray} {t : LS} {s : DS} {M K : Nat} (hok : s.Ok M K) (hM : M ≤ 1000000) (hK : K ≤ 1000000000) (hK2 : 10000 ≤ K) (hp : pre.size ≤ 1000) (hsl : t.segs.length ≤ 1000) (hs : 0 < t.segs.length) (hlast : lastN t.segs < 99) {ra : Option Addr} {rc : Nat} {rs : List BS} [rk : RdC w0 H (.slice ra rs.length rc) 1 (rs.map BS.val)] [rke : RdE w0 H rs] (hr8 : rs.length ≤ 9) (hrl : ∀ x ∈ rs, x.l.length ≤ 1000) (hnx : t.nx ≤ 1000000) :
    CT Tryz.prog w0 (lblk lp p pre t :: lrow t :: DS.H p s H) 272 [.pointer (some ⟨lp, 0, none⟩), .slice ra rs.length rc] (α := DS × LS × Int) (fun y => .int .i64 y.2.2) (fun y => pu (BeginR pre s t (rs.map BS.l) y.1 y.2.1 y.2.2) :: lblk lp p pre y.2.1 :: lrow y.2.1 :: DS.H p y.1 H) := by
  refine CT_intro Tryz.func272 rfl Tryz.ntmps272 rfl ?_
  refine T_seq ?_
  refine T_region ?_
  refine TL_q (Qt_assign (.int .i64 _) rfl) rfl ?_
  refine TL_nil ?_
  refine X_then ?_
  refine T_seq ?_
  refine T_region ?_
  refine TL_q (Qt_assign (.int .i64 _) rfl) rfl ?_
  refine TL_nil ?_
  refine X_then ?_
  refine T_seq ?_
  refine T_seq ?_
  refine T_region ?_
  refine TL_q (Qt_move (.pointer _) rfl) rfl ?_
  refine TL_q (Qt_nilCheck rfl) rfl ?_
  refine TL_q (Qt_fieldAddr 2 rfl rfl) rfl ?_
  refine TL_q (Qt_load1 rfl) rfl ?_
  refine TL_q (Qt_len_slice rfl Tryz.underlying183) rfl ?_
  refine TL_q (Qt_assign (.int .i64 _) rfl) rfl ?_
  refine TL_nil ?_
  refine X_then ?_
  refine T_seq ?_
  refine T_region ?_
  refine TL_q (Qt_move (.int .i64 _) rfl) rfl ?_
  refine TL_q (Qt_gtr rfl rfl) rfl ?_
  refine TL_nil ?_
  refine X_then ?_
  refine T_cond rfl (fun h18 => ?_) (fun h18 => ?_)
  ·
    have p18 := h18
    try simp only [decide_eq_true_eq, decide_eq_false_iff_not, Bool.not_eq_true', Bool.not_eq_false', Option.isNone_iff_eq_none, ne_eq, Decidable.not_not, Int.not_lt, Int.not_le] at p18
    refine T_region ?_
    refine TL_q (Qt_move (.pointer _) rfl) rfl ?_
    refine TL_q (Qt_nilCheck rfl) rfl ?_
    refine TL_q (Qt_fieldAddr 2 rfl rfl) rfl ?_
    refine TL_q (Qt_load1 rfl) rfl ?_
    refine TL_q (Qt_move (.int .i64 _) rfl) rfl ?_
    first
      | refine TL_q (Qt_sub rfl rfl (by omega) (by omega)) rfl ?_
      | refine TL_q (Qt_subw rfl rfl) rfl ?_
    refine TL_q (Qt_indexR rfl rfl (by omega) (by rw [List.length_map]; omega)) rfl ?_
    refine TL_q (Qt_loadR (.int .i64 ((lastN t.segs : Nat) : Int)) rfl (last_get hs)) rfl ?_
    first
      | refine TL_q (Qt_add rfl rfl (by omega) (by omega)) rfl ?_
      | refine TL_q (Qt_addw rfl rfl) rfl ?_
    refine TL_q (Qt_assign (.int .i64 _) rfl) rfl ?_
    refine TL_nil ?_
    refine X_then ?_
    refine T_seq ?_
    refine T_region ?_
    refine TL_q (Qt_assign (.slice _ _ _) rfl) rfl ?_
    refine TL_nil ?_
    refine X_then ?_
    refine T_seq ?_
    refine T_region ?_
    refine TL_q (Qt_move (.pointer _) rfl) rfl ?_
    refine TL_q (Qt_nilCheck rfl) rfl ?_
    refine TL_q (Qt_fieldAddr 4 rfl rfl) rfl ?_
    refine TL_q (Qt_load1 rfl) rfl ?_
    refine TL_q (Qt_assign (.int .u64 _) rfl) rfl ?_
    refine TL_nil ?_
    refine X_then ?_
    refine T_seq ?_
    refine T_seq ?_
    refine T_region ?_
    refine TL_q (Qt_move (.slice _ _ _) rfl) rfl ?_
    refine TL_q (Qt_len_slice rfl Tryz.underlying46) rfl ?_
    refine TL_q (Qt_move (.int .i64 _) rfl) rfl ?_
    refine TL_nil ?_
    refine X_then ?_
    refine T_block ?_
    refine T_loop [7, 8, 10, 34, 35, 36, 37, 38, 39, 40, 41, 42, 43, 44, 45] [34, 7, 8] (fun us H' => ∃ (k : Nat) (ba : Option Addr) (bc : Nat), us = [.int .i64 (k : Int), .slice ba (recsB t.nx ((rs.map BS.l).take k)).length bc, .int .u64 ((t.nx + k : Nat) : Int)] ∧ row (.slice ba (recsB t.nx ((rs.map BS.l).take k)).length bc) 5 1 (bytesV (recsB t.nx ((rs.map BS.l).take k))) :: lblk lp p pre t :: lrow t :: DS.H p s H = H' ∧ k ≤ rs.length) (fun us => match us with | .int _ i :: _ => rs.length - i.toNat | _ => 0) ⟨0, none, 0, by rw [recs0]; rfl, rfl, by omega⟩ (fun w hw => by rw [recs0]; exact (Subs.st inferInstance w hw : St w0 (lblk lp p pre t :: lrow t :: DS.H p s H) w).addNilB 5) ?_
    rintro τ0 _ _  ⟨k, ba, bc, rfl, rfl, hk0⟩ _
    refine T_seq ?_
    refine T_region ?_
    refine TL_q (Qt_lss rfl rfl) rfl ?_
    refine TL_nil ?_
    refine X_then ?_
    refine T_seq ?_
    refine T_cond rfl (fun h35 => ?_) (fun h35 => ?_)
    ·
      have p35 := h35
      try simp only [decide_eq_true_eq, decide_eq_false_iff_not, Bool.not_eq_true', Bool.not_eq_false', Option.isNone_iff_eq_none, ne_eq, Decidable.not_not, Int.not_lt, Int.not_le] at p35
      have hk : k < rs.length := by omega
      refine T_skip ?_
      refine X_then ?_
      refine T_seq ?_
      refine T_block ?_
      refine T_seq ?_
      refine T_region ?_
      refine TL_q (Qt_indexR rfl rfl (by omega) (by simp; omega)) rfl ?_
      refine TL_q (Qt_loadR (.slice _ _ _) rfl (vals_get _ _ hk)) rfl ?_
      refine TL_q (Qt_assign (.slice _ _ _) rfl) rfl ?_
      refine TL_nil ?_
      refine X_then ?_
      refine T_seq ?_
      refine T_region ?_
      refine TL_q (Qt_move (.slice _ _ _) rfl) rfl ?_
      refine TL_q (Qt_move (.int .u64 _) rfl) rfl ?_
      refine TL_q (Qt_move (.slice _ _ _) rfl) rfl ?_
      have : RdB w0 H (.slice rs[k].a rs[k].l.length rs[k].c) rs[k].l := rke.get (List.getElem_mem hk)
      refine TL_e rfl (Ef_call (told_c (n := t.nx + k) (by omega) (b := rs[k]) (by have := hrl _ (List.getElem_mem hk); omega)) rfl (fun x41 => ?_))
      refine TL_e rfl (Ef_appendB (sv := .slice _ _ _) (xv := .slice _ _ _) (l := recsB t.nx ((rs.map BS.l).take k)) (l' := toldB (t.nx + k) rs[k].l) rfl rfl (by have h1 := recs_len t.nx rs k (by omega) (by omega) hrl; have h2 := (toldB_len (t.nx + k) (by omega) rs[k].l (by have := hrl _ (List.getElem_mem hk); omega)).1; have := hrl _ (List.getElem_mem hk); omega) rfl (fun a42 c42 => ?_))
      rw [show recsB t.nx ((rs.map BS.l).take k) ++ toldB (t.nx + k) rs[k].l = recsB t.nx ((rs.map BS.l).take (k + 1)) from recs_step hk]
      refine TL_q (Qt_assign (.slice _ _ _) rfl) rfl ?_
      refine TL_nil ?_
      refine X_then ?_
      refine T_region ?_
      refine TL_q (Qt_move (.int .u64 _) rfl) rfl ?_
      refine TL_q (Qt_val (Qt_addw rfl rfl) (congrArg (Value.int .u64) (show IntKind.u64.wrap (((t.nx + k : Nat) : Int) + 1) = ((t.nx + (k + 1) : Nat) : Int) from wrap_u64 (by omega) (by omega)))) rfl ?_
      refine TL_q (Qt_assign (.int .u64 _) rfl) rfl ?_
      refine TL_nil ?_
      refine X_block ?_
      refine X_then ?_
      refine T_region ?_
      first
        | refine TL_q (Qt_add rfl rfl (by omega) (by omega)) rfl ?_
        | refine TL_q (Qt_addw rfl rfl) rfl ?_
      refine TL_q (Qt_move (.int .i64 _) rfl) rfl ?_
      refine TL_nil ?_
      apply X_loop
      case ha => exact (by repeat (first | with_reducible exact agree_refl | refine agree_upd rfl ?_ | refine agree_mix rfl ?_ | refine agree_setAll rfl ?_))
      case hI => exact ⟨k + 1, a42, c42, rfl, rfl, by omega⟩
      case hm => exact by show rs.length - (k + 1 : Int).toNat < rs.length - (k : Int).toNat; omega
      case hH => exact (Subs.st inferInstance)
    ·
      have p35 := h35
      try simp only [decide_eq_true_eq, decide_eq_false_iff_not, Bool.not_eq_true', Bool.not_eq_false', Option.isNone_iff_eq_none, ne_eq, Decidable.not_not, Int.not_lt, Int.not_le] at p35
      have hkn : k = rs.length := by omega
      have htk : (rs.map BS.l).take k = (rs.map BS.l) := List.take_of_length_le (by simp; omega)
      rw [htk, hkn]
      have hbl := recsB_len (rs.map BS.l) t.nx (by simp; omega) (fun l hl => by obtain ⟨x, hx, rfl⟩ := List.mem_map.1 hl; exact hrl x hx)
      rw [List.length_map] at hbl
      refine T_exit ?_
      refine X_then_exit ?_
      refine X_loop_exit ?_
      refine X_block_exit ?_
      refine X_then ?_
      refine T_seq ?_
      refine T_seq ?_
      refine T_draw (row (.slice ba (recsB t.nx (rs.map BS.l)).length bc) 5 1 (bytesV (recsB t.nx (rs.map BS.l))) :: lblk lp p pre t :: lrow t :: H) [(0, true), (1, true), (2, true), (3, true), (4, true), (5, true), (7, true), (6, false), (8, false), (9, true)] (by kernel_rfl) (by kernel_rfl) rfl (by kernel_rfl) (Subs.st inferInstance) (fun hns0 => ?_)
      refine DL_q hns0 rfl (Qt_move (.pointer _) rfl) rfl ?_
      refine DL_q hns0 rfl (Qt_nilCheck rfl) rfl ?_
      refine DL_q hns0 rfl (Qt_fieldAddr 0 rfl rfl) rfl ?_
      refine DL_q hns0 rfl (Qt_load1 rfl) rfl ?_
      refine DL_q hns0 rfl (Qt_move (.pointer _) rfl) rfl ?_
      refine DL_q hns0 rfl (Qt_move (.int .i64 _) rfl) rfl ?_
      refine DL_q hns0 rfl (Qt_move (.slice _ _ _) rfl) rfl ?_
      refine DL_frontA (lblk lp p pre t) ?_
      refine DL_e rfl rfl (Ef_call (name_c (t := t) hp (i := (lastN t.segs + 1)) (by omega)) rfl (fun x52 => ⟨(Subs.st inferInstance), ?_⟩))
      refine DL_conv (fun w hw => (Subs.st inferInstance w hw : St w0 (DS.H p s (row (.slice ba (recsB t.nx (rs.map BS.l)).length bc) 5 1 (bytesV (recsB t.nx (rs.map BS.l))) :: lblk lp p pre t :: lrow t :: H)) w)) ?_
      refine DL_e rfl rfl (Ef_call (write_c (s := s) hok hM (by omega) (b := ⟨ba, bc, (recsB t.nx (rs.map BS.l))⟩) (by show (recsB t.nx (rs.map BS.l)).length ≤ 100000; omega) (by show (recsB t.nx (rs.map BS.l)).length ≤ K; omega)) rfl (fun x54 => ⟨(Subs.st inferInstance), ?_⟩))
      refine DL_pure (fun hw54 => ?_)
      refine DL_q hns0 rfl (Qt_assign (.int .i64 _) rfl) rfl ?_
      refine DL_nil ?_
      refine X_then ?_
      refine T_seq ?_
      refine T_region ?_
      refine TL_q (Qt_move (.int .i64 _) rfl) rfl ?_
      refine TL_q (Qt_neq rfl rfl) rfl ?_
      refine TL_nil ?_
      refine X_then ?_
      refine T_cond rfl (fun h56 => ?_) (fun h56 => ?_)
      ·
        have p56 := h56
        try simp only [decide_eq_true_eq, decide_eq_false_iff_not, Bool.not_eq_true', Bool.not_eq_false', Option.isNone_iff_eq_none, ne_eq, Decidable.not_not, Int.not_lt, Int.not_le] at p56
        refine T_seq ?_
        refine T_region ?_
        refine TL_q (Qt_move (.int .i64 _) rfl) rfl ?_
        refine TL_q (Qt_assign (.int .i64 _) rfl) rfl ?_
        refine TL_nil ?_
        refine X_then ?_
        refine T_ret ?_
        refine X_then_ret ?_
        have e2 : newN t.segs = (lastN t.segs + 1) := if_neg (by omega)
        exact X_ret (x54.1, t, x54.2) [_] Tryz.results272 ⟨rfl, trivial⟩ rfl (fun w hw => (Subs.st inferInstance w hw : St w0 (lblk lp p pre t :: lrow t :: DS.H p x54.1 H) w).addPure ⟨by rw [e2]; exact hw54, fun _ => rfl, fun h => absurd h p56⟩)
      ·
        have p56 := h56
        try simp only [decide_eq_true_eq, decide_eq_false_iff_not, Bool.not_eq_true', Bool.not_eq_false', Option.isNone_iff_eq_none, ne_eq, Decidable.not_not, Int.not_lt, Int.not_le] at p56
        refine T_skip ?_
        refine X_then ?_
        refine T_seq ?_
        refine T_region ?_
        refine TL_q (Qt_move (.pointer _) rfl) rfl ?_
        refine TL_q (Qt_move (.pointer _) rfl) rfl ?_
        refine TL_q (Qt_nilCheck rfl) rfl ?_
        refine TL_q (Qt_fieldAddr 2 rfl rfl) rfl ?_
        refine TL_q (Qt_load1 rfl) rfl ?_
        refine TL_q (Qt_move (.int .i64 _) rfl) rfl ?_
        refine TL_e rfl (Ef_slice1 (v := .int .i64 (((lastN t.segs + 1) : Nat) : Int)) rfl (fun a64 c64 => ?_))
        refine TL_e rfl (Ef_appendO (lblk lp p pre t :: DS.H p x54.1 H) (sv := .slice _ _ _) (xv := .slice _ _ _) (xs := t.segs.map encI) (news := [.int .i64 (((lastN t.segs + 1) : Nat) : Int)]) rfl rfl (fun w hw => (Subs.st inferInstance w hw)) (fun u hu => by obtain rfl : u = _ := (by simpa using hu); rfl) (by simp) (by simp; omega) rfl (fun a65 c65 => ?_))
        rw [show t.segs.map encI ++ [.int .i64 (((lastN t.segs + 1) : Nat) : Int)] = (t.segs ++ [(lastN t.segs + 1)]).map encI from by rw [List.map_append]; rfl, List.length_map]
        refine TL_q (Qt_nilCheck rfl) rfl ?_
        refine TL_q (Qt_fieldAddr 2 rfl rfl) rfl ?_
        refine TL_n (Ef_store1 (.slice _ _ _) rfl rfl (?_))
        refine TL_nil ?_
        refine X_then ?_
        refine T_seq ?_
        refine T_region ?_
        refine TL_q (Qt_move (.pointer _) rfl) rfl ?_
        refine TL_q (Qt_move (.pointer _) rfl) rfl ?_
        refine TL_q (Qt_move (.slice _ _ _) rfl) rfl ?_
        refine TL_q (Qt_len_slice rfl Tryz.underlying22) rfl ?_
        refine TL_q (Qt_move (.int .u64 _) rfl) rfl ?_
        refine TL_q (Qt_nilCheck rfl) rfl ?_
        refine TL_q (Qt_fieldAddr 3 rfl rfl) rfl ?_
        refine TL_n (Ef_store1 (.int .i64 _) rfl rfl (?_))
        refine TL_q (Qt_nilCheck rfl) rfl ?_
        refine TL_q (Qt_fieldAddr 4 rfl rfl) rfl ?_
        refine TL_n (Ef_store1 (.int .u64 _) rfl rfl (?_))
        refine TL_nil ?_
        refine X_then ?_
        refine T_seq ?_
        refine T_region ?_
        refine TL_q (Qt_assign (.int .i64 _) rfl) rfl ?_
        refine TL_nil ?_
        refine X_then ?_
        refine T_ret ?_
        have e2 : newN t.segs = (lastN t.segs + 1) := if_neg (by omega)
        have h0 : x54.2 = 0 := by omega
        exact X_ret (x54.1, (⟨a65, c65, t.segs ++ [(lastN t.segs + 1)], (recsB t.nx (rs.map BS.l)).length, t.nx + rs.length, t.bg⟩ : LS), x54.2) [_] Tryz.results272 ⟨rfl, trivial⟩ (by rw [h0]; rfl) (fun w hw => (Subs.st inferInstance w hw : St w0 (lblk lp p pre (⟨a65, c65, t.segs ++ [(lastN t.segs + 1)], (recsB t.nx (rs.map BS.l)).length, t.nx + rs.length, t.bg⟩ : LS) :: lrow (⟨a65, c65, t.segs ++ [(lastN t.segs + 1)], (recsB t.nx (rs.map BS.l)).length, t.nx + rs.length, t.bg⟩ : LS) :: DS.H p x54.1 H) w).addPure ⟨by rw [e2]; exact hw54, fun h => absurd h0 h, fun _ => ⟨by rw [e2], rfl, by rw [List.length_map], rfl⟩⟩)
  ·
    have p18 := h18
    try simp only [decide_eq_true_eq, decide_eq_false_iff_not, Bool.not_eq_true', Bool.not_eq_false', Option.isNone_iff_eq_none, ne_eq, Decidable.not_not, Int.not_lt, Int.not_le] at p18
    exact absurd p18 (by omega)
end Go.Proofs.YtldnfbghjnhklaaGreatDoor
