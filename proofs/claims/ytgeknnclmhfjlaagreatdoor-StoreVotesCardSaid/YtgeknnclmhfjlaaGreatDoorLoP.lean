/- Walks of package logs: names, records, what begins a segment. -/
import Derived.Test.YtgeknnclmhfjlaaGreatDoorLiP
import Derived.Test.YtgeknnclmhfjlaaGreatDoorShaP
import Derived.Test.YtgeknnclmhfjlaaGreatDoorSuP
import Derived.Test.YtgeknnclmhfjlaaGreatDoorSgP
namespace Go.Proofs.YtgeknnclmhfjlaaGreatDoor
section
open Go.RowKit Go.Sx
set_option maxRecDepth 100000
set_option linter.unusedSimpArgs false
set_option linter.unusedVariables false
theorem Qt_slice_arrH {P : Program} {w0 : World} {σ : Env} {H : List SA} {d : Option Nat} {ty : TypeId} {pos : String} {aft : Array Edge} {g : Option (Nat × Bool)} {x hi : Operand} {t e n m b o : Nat} {i : TypeInfo} {k : IntKind} (hx : ev σ x = .pointer (some ⟨b, o, none⟩)) (hh : ev σ hi = .int k (m : Int)) (hu : P.underlying t = some (.array n e)) (hi' : P.info? e = some i) (hn : Nat.blt 0 n = true) (hm : m ≤ n) :
    Qt P w0 H σ ⟨d, .slice t x none (some hi) none, ty, pos, aft, g⟩ (.slice (some ⟨b, o, none⟩) m n) := fun w _ => by
  have h0 : n ≠ 0 := by simp only [Nat.blt_eq] at hn; omega
  have h1 : ¬ ((m : Int) < 0) := by omega
  have h2 : ¬ ((n : Int) < (m : Int)) := by omega
  simp only [execOp, hx, hh, Option.map_none, Option.map_some, Instr.sliceAt, Sem.run_bind, run_underlying hu, Result.andThen_ok, Instr.sureAddr, Sem.run_pure, Instr.sliceBounds, Instr.sliceBound, asIntOf, run_sizeOf_of hi', h0, if_false, Nat.zero_mul, Nat.sub_zero]
  simp [Addr.add, asIntOf, h1, h2, hm]
theorem RdB.hashPre {w0 : World} {H : List SA} {b n m : Nat} {T : TypeId} {fz : Nat × Nat} (x : Vector UInt8 n) (hm : Mem w0 H b (.cells (hlist x).toArray T fz)) (hmn : m ≤ n) (hn : n ≤ 1000) : RdB w0 H (.slice (some ⟨b, 0, none⟩) (x.toList.take m).length n) (x.toList.take m) :=
  ⟨fun w hw => ⟨_, _, _, rfl, by simp [bytesV], by simp; omega, by unfold maxLen; omega, fun _ => ⟨b, 0, rfl, fun j u hj => by
    rw [cell_of_blk (hm.get w hw)]
    have hj2 : (bytesV (x.toList.take m))[j]? = some u := hj
    rw [Nat.zero_add]
    unfold bytesV at hj2
    rw [List.map_take, List.getElem?_take] at hj2
    split at hj2
    · simpa [hlist, bytesV] using hj2
    · cases hj2⟩⟩⟩
/-- A row of one-cell values that is ours, from some place of its block on. -/
def rowOP (v : Value) (e : TypeId) (xs : List Value) (w : World) : Prop :=
  ∃ a c, v = .slice a xs.length c ∧ xs.length ≤ c ∧ c ≤ maxLen ∧ (a = none → c = 0) ∧ (c ≠ 0 → ∃ g o cur, a = some ⟨g, o, none⟩ ∧ w.heap[g]? = some (.cells cur e (0, 0)) ∧ o + c ≤ cur.size ∧ (cur.toList.drop o).take xs.length = xs)
def rowO (v : Value) (e : TypeId) (xs : List Value) : SA := ⟨rowFp v, rowOP v e xs, fun w w' h hp => by
  obtain ⟨a, c, hv, hn, hc, ha, hx⟩ := hp
  refine ⟨a, c, hv, hn, hc, ha, fun h0 => ?_⟩
  obtain ⟨g, o, cur, hg, hw, h1, h2⟩ := hx h0
  refine ⟨g, o, cur, hg, ?_, h1, h2⟩
  rw [h g (by subst hv; subst hg; simp [rowFp, h0])]; exact hw⟩
theorem rowOP.cells {v : Value} {e : TypeId} {xs : List Value} {w : World} (h : rowOP v e xs w) : CellsAt w v 1 xs := by
  obtain ⟨a, c, hv, hn, hc, ha, hx⟩ := h
  refine ⟨a, xs.length, c, hv, by omega, hn, hc, fun h0 => ?_⟩
  obtain ⟨g, o, cur, hg, hw, h1, h2⟩ := hx (by omega)
  refine ⟨g, o, hg, fun j u hj => ?_⟩
  rw [cell_of_blk hw]
  rw [← h2, List.getElem?_take] at hj
  split at hj
  · rw [List.getElem?_drop] at hj; simpa using hj
  · cases hj
instance RdC.ofRowO {w0 : World} {H : List SA} {v : Value} {e : TypeId} {xs : List Value} : RdC w0 (rowO v e xs :: H) v 1 xs := ⟨fun w hw => (hw.holds (rowO v e xs) (by simp) : rowOP v e xs w).cells⟩
theorem St.toO {w0 w : World} {H : List SA} {v : Value} {e : TypeId} {xs : List Value} (h : St w0 (row v e 1 xs :: H) w) : St w0 (rowO v e xs :: H) w :=
  h.turn rfl fun hp => by
    obtain ⟨a, n, c, hv, hl, hn, hc, ha, hx⟩ := (hp : rowP v e 1 xs w)
    have hnl : n = xs.length := by omega
    subst hnl
    refine ⟨a, c, hv, hn, hc, ha, fun h0 => ?_⟩
    obtain ⟨g, cur, hg, hw, h1, h2⟩ := hx h0
    exact ⟨g, 0, cur, hg, hw, by omega, by rw [List.drop_zero]; simpa using h2⟩
theorem rowFp_some {g o n c : Nat} (h : c ≠ 0) : rowFp (.slice (some ⟨g, o, none⟩) n c) = [g] := by simp [rowFp, h]
theorem run_append_room_o {P : Program} (w : World) (t ty e : TypeId) (i : TypeInfo) (ht : P.underlying t = some (.slice e)) (hi : P.info? e = some i) (g o sLen sCap : Nat) (cur : Array Value) (hg : w.heap[g]? = some (.cells cur e (0, 0)))
    (a : Addr) (m c : Nat) (news : List Value) (hl : news.length = m * i.size) (hnews : ∀ j u, news[j]? = some u → w.cell? (a.add j) = some u) (h1 : ∀ u ∈ news, u.oneCell' = true) (hroom : sLen + m ≤ sCap) (hfit : o + sLen * i.size + news.length ≤ cur.size) :
    (Builtin.append_ #[t, t] ty #[.slice (some ⟨g, o, none⟩) sLen sCap, .slice (some a) m c]).run P w = .ok (.slice (some ⟨g, o, none⟩) (sLen + m) sCap) (w.setRow g (cur.toList.take (o + sLen * i.size) ++ news ++ cur.toList.drop (o + sLen * i.size + news.length)).toArray) := by
  have hf := run_firstCells_some (P := P) w i.size m a m c news hl hnews
  have hst := run_storeCells_at P g (o + sLen * i.size) e news 0 cur w hg (by simpa using hfit) h1
  simp only [Nat.add_zero] at hst
  simp [Builtin.append_, run_underlying ht, sizeOf, typeInfo, hi, Builtin.lenOf, hroom, hf, Addr.add_lit, hst]
/-- One value more behind such a row. -/
theorem run_append_o {P : Program} {t ty e : TypeId} {i : TypeInfo} {z : Value} {bytes : Nat} (ht : P.underlying t = some (.slice e)) (hi : P.info? e = some i) (hz : i.zero = some z) (hsz : i.size = 1) (hby : i.bytes = bytes) (hzs : z.cells.size = 1) {w0 w : World} {H : List SA} {v x : Value} {xs news : List Value}
    (hw : St w0 (rowO v e xs :: H) w) (hx : CellsAt w x 1 news) (h1 : ∀ u ∈ news, u.oneCell' = true) (hnp : 0 < news.length) (h63 : xs.length + news.length ≤ 281474976710656) (hb : (xs.length + news.length) * bytes ≤ 140737488355328) :
    ∃ v' w', (Builtin.append_ #[t, t] ty #[v, x]).run P w = .ok v' w' ∧ St w0 (rowO v' e (xs ++ news) :: H) w' ∧ ∃ a c, v' = .slice a (xs ++ news).length c := by
  have hr : rowOP v e xs w := hw.holds (rowO v e xs) (by simp)
  obtain ⟨a, c, hv, hn, hc, ha, hcur⟩ := hr
  obtain ⟨xa, m, xc, hxv, hxl, hxm, hxc, hxcell⟩ := hx
  have hml : m = news.length := by omega
  subst hml
  subst hv; subst hxv; subst hby
  obtain ⟨sb, so, hsa, hscell⟩ := hxcell hnp
  subst hsa
  have hnewsAt : ∀ j u, news[j]? = some u → w.cell? ((⟨sb, so, none⟩ : Addr).add j) = some u := fun j u hj => by rw [add_block]; exact hscell j u hj
  by_cases hroom : xs.length + news.length ≤ c
  · obtain ⟨g, o, cur, rfl, hgw, hcs, htake⟩ := hcur (by omega)
    have hrun := run_append_room_o (P := P) w t ty e i ht hi g o xs.length c cur hgw ⟨sb, so, none⟩ news.length xc news (by rw [hsz, Nat.mul_one]) hnewsAt h1 hroom (by rw [hsz]; omega)
    rw [hsz, Nat.mul_one] at hrun
    have hgl : g < w.heap.size := (Array.getElem?_eq_some_iff.1 hgw).1
    refine ⟨_, _, hrun, ?_, _, _, by rw [List.length_append]⟩
    refine St.swap hw rfl rfl rfl (by simp) (fun k _ hk => setRow_other w g k _ (fun he => hk (by show k ∈ rowFp (.slice (some ⟨g, o, none⟩) xs.length c); rw [rowFp_some (by omega), he]; simp))) ?_ (by show (rowFp (.slice (some ⟨g, o, none⟩) (xs.length + news.length) c)).Nodup; rw [rowFp_some (by omega)]; simp) (fun b hb' => ?_)
    · refine ⟨_, _, by rw [List.length_append], by rw [List.length_append]; exact hroom, hc, (fun h => by cases h), fun _ => ⟨g, o, _, rfl, setRow_heap w g cur _ e _ hgw, ?_, ?_⟩⟩
      · simp only [List.size_toArray, List.length_append, List.length_take, List.length_drop, Array.length_toList]
        omega
      · have hlt : o ≤ (cur.toList.take (o + xs.length)).length := by rw [List.length_take]; have h9 : cur.toList.length = cur.size := Array.length_toList; exact Nat.le_min.2 ⟨by omega, by omega⟩
        rw [List.append_assoc, List.drop_append_of_le_length hlt, List.drop_take, show o + xs.length - o = xs.length by omega, htake, ← List.append_assoc]
        exact List.take_left
    · have hb2 : b ∈ rowFp (.slice (some ⟨g, o, none⟩) (xs.length + news.length) c) := hb'
      rw [rowFp_some (by omega)] at hb2
      obtain rfl : b = g := by simpa using hb2
      exact ⟨.inl (by show b ∈ rowFp (.slice (some ⟨b, o, none⟩) xs.length c); rw [rowFp_some (by omega)]; simp), by simpa using hgl⟩
  · have grown : St w0 (row (.slice (some ⟨w.heap.size, 0, none⟩) (xs.length + news.length) (grownCap w (xs.length + news.length) c e)) e 1 (xs ++ news) :: H) (w.drew.alloc (.cells (xs.toArray ++ news.toArray ++ Builtin.zeroCells z.cells (grownCap w (xs.length + news.length) c e - (xs.length + news.length))) e)) := by
      have hge := grownCap_ge w (xs.length + news.length) c e
      have hcm : grownCap w (xs.length + news.length) c e ≤ maxLen := grownCap_le_maxLen w (xs.length + news.length) c e (by unfold maxLen; omega)
      have h0 : grownCap w (xs.length + news.length) c e ≠ 0 := by omega
      refine St.fresh hw.tail rfl rfl rfl (by simp) (fun k hk => by show (w.heap.push _)[k]? = w.heap[k]?; rw [Array.getElem?_push, if_neg (by omega)]) ?_ ?_ ?_
      · refine ⟨_, _, _, rfl, by simp, hge, hcm, by simp, fun _ => ⟨_, _, rfl, heap_alloc_new w.drew _, ?_, ?_⟩⟩
        · simp only [Array.size_append, List.size_toArray, size_zeroCells, hzs]
          omega
        · simp only [Array.toList_append, List.append_assoc]
          rw [← List.append_assoc, Nat.mul_one, ← List.length_append]
          exact List.take_left
      · simp [row, rowFp, h0]
      · simp [row, rowFp, h0]
    cases a with
    | none =>
      have hc0 : c = 0 := ha rfl
      subst hc0
      have hxs : xs = [] := List.eq_nil_of_length_eq_zero (by omega)
      subst hxs
      have hrun := run_append_nil (P := P) w t ty e i z ht hi hz ⟨sb, so, none⟩ news.length xc news (by rw [hsz, Nat.mul_one]) hnewsAt hnp (by simp at h63; omega) (by simp at hb; omega)
      refine ⟨_, _, hrun, ?_, _, _, rfl⟩
      have := St.toO grown
      simpa using this
    | some ad =>
      have holds : ∀ j u, xs[j]? = some u → w.cell? (ad.add j) = some u := by
        intro j u hj
        have hc0 : c ≠ 0 := by
          rintro rfl
          have : xs = [] := List.eq_nil_of_length_eq_zero (by omega)
          subst this; simp at hj
        obtain ⟨g, o, cur, hg, hgw, hcs, htake⟩ := hcur hc0
        obtain rfl : ad = ⟨g, o, none⟩ := by simpa using hg
        rw [add_block, cell_of_blk hgw]
        rw [← htake, List.getElem?_take] at hj
        split at hj
        · rw [List.getElem?_drop] at hj; simpa using hj
        · cases hj
      have hrun := run_append_grow (P := P) w t ty e i z ht hi hz ad xs.length c xs (by rw [hsz, Nat.mul_one]) holds ⟨sb, so, none⟩ news.length xc news (by rw [hsz, Nat.mul_one]) hnewsAt (by omega) (by omega) (growslice_fits (by omega) (by rw [← List.length_append] at hb ⊢; exact hb))
      exact ⟨_, _, hrun, St.toO grown, _, _, by rw [List.length_append]⟩
theorem Ef_appendO {P : Program} {w0 : World} {σ : Env} {H : List SA} {d : Option Nat} {ty : TypeId} {pos : String} {aft : Array Edge} {g : Option (Nat × Bool)} {K : Value → List SA → Prop} {s x : Operand} {t e bytes : Nat} {sv xv : Value} {xs news : List Value} (Hr : List SA) (hs : ev σ s = sv) (hx : ev σ x = xv) [ht : TySl P t e 1 bytes] (hr : ∀ w, St w0 H w → St w0 (rowO sv e xs :: Hr) w) [hn : RdC w0 H xv 1 news]
    (h1 : ∀ u ∈ news, u.oneCell' = true) (hnp : 0 < news.length) (hb : xs.length + news.length ≤ 4294967296) (hby : Nat.ble bytes 32768 = true)
    (h : ∀ a c, K (.slice a (xs ++ news).length c) (rowO (.slice a (xs ++ news).length c) e (xs ++ news) :: Hr)) : Ef P w0 H σ ⟨d, .call ⟨.builtin .append, #[s, x], #[t, t]⟩, ty, pos, aft, g⟩ K := fun w hw => by
  obtain ⟨i, z, hi, hz, hsz, hby', hzs⟩ := ht.spec
  have hby2 := Nat.le_of_ble_eq_true hby
  obtain ⟨v', w', hrun, hw', a, c, rfl⟩ := run_append_o (ty := ty) ht.ht hi hz hsz hby' hzs (hr w hw) (hn.rd w hw) h1 hnp (by omega) (by
    calc (xs.length + news.length) * bytes ≤ 4294967296 * 32768 := Nat.mul_le_mul hb hby2
      _ ≤ 140737488355328 := by decide)
  have : (execOp (ev σ) ⟨d, .call ⟨.builtin .append, #[s, x], #[t, t]⟩, ty, pos, aft, g⟩).run P w = .ok (.value (.slice a (xs ++ news).length c)) w' := by
    simp [execOp, resolve, invoke, builtin, hs, hx, hrun]
  rw [this]
  exact ⟨_, h a c, hw'⟩
@[reducible] def encN (n : Nat) : List Value := [.int .i64 (n : Int)]
theorem encN_get (l : List Nat) (i : Nat) (h : i < l.length) : (l.flatMap encN)[i]? = some (.int .i64 (l[i] : Int)) := by
  have := flat_get encN 1 (fun _ => rfl) l i 0 h (by decide)
  simpa using this
theorem encN_len (l : List Nat) : (l.flatMap encN).length = l.length := by have := flat_len encN 1 (fun _ => rfl) l; simpa using this
@[reducible] def encI (n : Nat) : Value := .int .i64 (n : Int)
theorem enc_map (l : List Nat) : l.flatMap encN = l.map encI := by
  induction l with
  | nil => rfl
  | cons x l ih => rw [List.flatMap_cons, ih]; rfl
theorem encI_get (l : List Nat) (i : Nat) (h : i < l.length) : (l.map encI)[i]? = some (.int .i64 (l[i] : Int)) := by simp [h]
/-- A log, as far as it is not its disk. -/
structure LS where
  ga : Option Addr
  gc : Nat
  segs : List Nat
  siz : Nat
  nx : Nat
  bg : Bool
@[reducible] def lblk (lp p : Nat) (pre : ByteArray) (t : LS) : SA := blk lp (.cells (LogV.mk (some ⟨p, 0, none⟩) pre ⟨t.ga, t.segs.length, t.gc⟩ (t.siz : Int) (t.nx : Int) t.bg).cells 131 (0, 0))
@[reducible] def lrow (t : LS) : SA := rowO (.slice t.ga t.segs.length t.gc) 3 (t.segs.map encI)
def dotB : ByteArray := ⟨#[46]⟩
def nmB (pre : ByteArray) (i : Nat) : ByteArray := pre ++ dotB ++ ⟨(Lib.decDigits i).toArray⟩
/-- A record's bytes. -/
def toldB (n : Nat) (l : List UInt8) : List UInt8 := packed n ++ packed l.length ++ l ++ (sha (packed n ++ packed l.length ++ l)).toList.take 8
def recsB : Nat → List (List UInt8) → List UInt8
  | _, [] => []
  | n, l :: ls => toldB n l ++ recsB (n + 1) ls
theorem recsB_app (ls ms : List (List UInt8)) : ∀ n, recsB n (ls ++ ms) = recsB n ls ++ recsB (n + ls.length) ms := by
  induction ls with
  | nil => intro n; rfl
  | cons l ls ih => intro n; simp only [List.cons_append, recsB, ih, List.append_assoc, List.length_cons]; congr 3; omega
theorem toldB_len (n : Nat) (hn : n < 18446744073709551616) (l : List UInt8) (hl : l.length ≤ 4294967000) : (toldB n l).length ≤ l.length + 28 ∧ 8 ≤ (toldB n l).length := by
  have h1 := packed_length_le n (by omega)
  have h2 := packed_length_le l.length (by omega)
  unfold toldB
  simp only [List.length_append, List.length_take, Vector.length_toList]
  omega
def lastN (l : List Nat) : Nat := l.getLastD 0
theorem last_get {l : List Nat} (h : 0 < l.length) : (l.map encI)[((l.length : Int) - 1).toNat]? = some (.int .i64 ((lastN l : Nat) : Int)) := by
  have e : ((l.length : Int) - 1).toNat = l.length - 1 := by omega
  rw [e, encI_get l (l.length - 1) (by omega)]
  unfold lastN
  rw [List.getLastD_eq_getLast?, List.getLast?_eq_getElem?, List.getElem?_eq_getElem (by omega)]
  rfl
def newN (l : List Nat) : Nat := if l.length = 0 then 1 else lastN l + 1
/-- What a segment that is begun with records leaves. -/
def BeginR (pre : ByteArray) (s : DS) (t : LS) (ls : List (List UInt8)) (s' : DS) (t' : LS) (e : Int) : Prop :=
  AppR 2 (oldE s.e2 (nmB pre (newN t.segs))).l.length s (nmB pre (newN t.segs)) (recsB t.nx ls) s' e ∧ (e ≠ 0 → t' = t) ∧
  (e = 0 → t'.segs = t.segs ++ [newN t.segs] ∧ t'.siz = (recsB t.nx ls).length ∧ t'.nx = t.nx + ls.length ∧ t'.bg = t.bg)
attribute [local irreducible] sha
theorem str_add {a b : ByteArray} (h : a.size + b.size ≤ 1000000) : Op.stringOp .add a b = pure (.string (a ++ b)) := by
  have : ¬ (((a.size + b.size : Nat) : Int) > IntKind.i64.max) := by show ¬ ((9223372036854775807 : Int) < _); omega
  simp only [Op.stringOp, if_neg this]
theorem nm_size (i : Nat) (hi : i < 100) : (⟨(Lib.decDigits i).toArray⟩ : ByteArray).size ≤ 2 := by
  show (Lib.decDigits i).toArray.size ≤ 2
  by_cases h : i < 10
  · rw [Lib.decDigits_one h]; simp
  · rw [Lib.decDigits_two h hi]; simp
set_option maxHeartbeats 1000000 in
theorem name_c {w0 : World} {H : List SA} {lp p : Nat} {pre : ByteArray} {t : LS} (hp : pre.size ≤ 1000) {i : Nat} (hi : i < 100) :
    CT Tryz.prog w0 (lblk lp p pre t :: H) 64 [.pointer (some ⟨lp, 0, none⟩), .int .i64 (i : Int)] (α := Unit) (fun _ => .string (nmB pre i)) (fun _ => lblk lp p pre t :: H) := by
  refine CT_intro Tryz.func64 rfl Tryz.ntmps64 rfl ?_
  refine T_seq ?_
  refine T_region ?_
  refine TL_q (Qt_assign (.string _) rfl) rfl ?_
  refine TL_nil ?_
  refine X_then ?_
  refine T_seq ?_
  refine T_draw _ [(0, true), (1, true), (2, true), (3, true), (4, true), (5, true), (6, false), (7, true), (8, true)] (by kernel_rfl) (by kernel_rfl) rfl (by kernel_rfl) (fun _ hh => hh) (fun hns0 => ?_)
  refine DL_q hns0 rfl (Qt_move (.pointer _) rfl) rfl ?_
  refine DL_q hns0 rfl (Qt_nilCheck rfl) rfl ?_
  refine DL_q hns0 rfl (Qt_fieldAddr 1 rfl rfl) rfl ?_
  refine DL_q hns0 rfl (Qt_load1 rfl) rfl ?_
  refine DL_q hns0 rfl (Qt_str_op (v := .string (pre ++ dotB)) rfl rfl (str_add (b := dotB) (by have : dotB.size = 1 := rfl; omega))) rfl ?_
  refine DL_q hns0 rfl (Qt_move (.int .i64 _) rfl) rfl ?_
  refine DL_e rfl rfl (Ef_call (itoa_c hi) rfl (fun x11 => ⟨(Subs.st inferInstance), ?_⟩))
  refine DL_q hns0 rfl (Qt_str_op (v := .string (nmB pre i)) rfl rfl (str_add (by have h1 := nm_size i hi; have h2 : dotB.size = 1 := rfl; rw [ByteArray.size_append, h2]; show _ + (⟨(Lib.decDigits i).toArray⟩ : ByteArray).size ≤ _; omega))) rfl ?_
  refine DL_q hns0 rfl (Qt_assign (.string _) rfl) rfl ?_
  refine DL_nil ?_
  refine X_then ?_
  refine T_ret ?_
  exact X_ret () [_] Tryz.results64 ⟨rfl, trivial⟩ rfl (Subs.st inferInstance)
set_option maxHeartbeats 1000000 in
theorem told_c {w0 : World} {H : List SA} {n : Nat} (hn : n < 18446744073709551616) {b : BS} [rb : RdB w0 H (.slice b.a b.l.length b.c) b.l] (hl : b.l.length ≤ 1000000) :
    CT Tryz.prog w0 (H) 73 [.int .u64 (n : Int), .slice b.a b.l.length b.c] (α := AC) (fun y => .slice y.a (toldB n b.l).length y.c) (fun y => row (.slice y.a (toldB n b.l).length y.c) 5 1 (bytesV (toldB n b.l)) :: H) := by
  refine CT_intro Tryz.func73 rfl Tryz.ntmps73 rfl ?_
  refine T_seq ?_
  refine T_region ?_
  refine TL_q (Qt_assign (.slice _ _ _) rfl) rfl ?_
  refine TL_nil ?_
  refine X_then ?_
  refine T_seq ?_
  refine T_region ?_
  refine TL_q (Qt_move (.int .u64 _) rfl) rfl ?_
  have hp1 := packed_length_le n (by omega)
  have hp2 := packed_length_le b.l.length (by omega)
  refine TL_e rfl (Ef_call (putPacked_c (a := none) (l := []) (c := 0) (x := (n : Int)) (hr := RdB.nil') (by simp) (by omega) (by omega)) rfl (fun x8 => ?_))
  rw [List.nil_append, Int.toNat_natCast]
  refine TL_q (Qt_move (.slice _ _ _) rfl) rfl ?_
  refine TL_e rfl (Ef_call (putText_c (l := packed n) (l2 := b.l) (by omega) (by omega)) rfl (fun x10 => ?_))
  refine TL_q (Qt_assign (.slice _ _ _) rfl) rfl ?_
  refine TL_nil ?_
  refine X_then ?_
  refine T_seq ?_
  refine T_region ?_
  refine TL_q (Qt_move (.slice _ _ _) rfl) rfl ?_
  refine TL_e rfl (Ef_call (sum_c (l := (packed n ++ packed b.l.length ++ b.l)) (by simp only [List.length_append]; omega)) rfl (fun x12 => ?_))
  refine TL_e rfl (Ef_allocN (fun b6 => ?_))
  refine TL_n (Ef_storeN rfl rfl (?_))
  refine TL_nil ?_
  refine X_then ?_
  refine T_seq ?_
  refine T_region ?_
  refine TL_q (Qt_move (.slice _ _ _) rfl) rfl ?_
  refine TL_q (Qt_val (Qt_slice_arrH (m := 8) rfl rfl Tryz.underlying40 rfl rfl (by decide)) (show Value.slice (some ⟨b6, 0, none⟩) 8 32 = .slice (some ⟨b6, 0, none⟩) ((sha (packed n ++ packed b.l.length ++ b.l)).toList.take 8).length 32 from by simp)) rfl ?_
  refine TL_e rfl (Ef_appendB (sv := .slice _ _ _) (xv := .slice _ _ _) (hn := RdB.hashPre (sha (packed n ++ packed b.l.length ++ b.l)) inferInstance (by decide) (by decide)) (l := (packed n ++ packed b.l.length ++ b.l)) rfl rfl (by simp only [List.length_append, List.length_take, Vector.length_toList]; omega) rfl (fun a15 c15 => ?_))
  rw [show (packed n ++ packed b.l.length ++ b.l) ++ (sha (packed n ++ packed b.l.length ++ b.l)).toList.take 8 = toldB n b.l from rfl]
  refine TL_q (Qt_assign (.slice _ _ _) rfl) rfl ?_
  refine TL_nil ?_
  refine X_then ?_
  refine T_ret ?_
  exact X_ret ⟨a15, c15⟩ [_] Tryz.results73 ⟨rfl, trivial⟩ rfl (Subs.st inferInstance)
theorem recs_step {n k : Nat} {rs : List BS} (hk : k < rs.length) : recsB n ((rs.map BS.l).take k) ++ toldB (n + k) rs[k].l = recsB n ((rs.map BS.l).take (k + 1)) := by
  rw [List.take_add_one, List.getElem?_eq_getElem (by simpa using hk), recsB_app]
  simp only [List.length_take, List.length_map, Option.toList, recsB, List.getElem_map, List.append_nil]
  rw [Nat.min_eq_left (by omega)]
theorem recs_len (n : Nat) (rs : List BS) (k : Nat) : (recsB n ((rs.map BS.l).take k)).length ≤ (recsB n (rs.map BS.l)).length := by
  have h := recsB_app ((rs.map BS.l).take k) ((rs.map BS.l).drop k) n
  rw [List.take_append_drop] at h
  rw [h, List.length_append]; omega
theorem recs0 (n : Nat) (l : List (List UInt8)) : recsB n (l.take 0) = [] := rfl
attribute [local irreducible] toldB recsB nmB lastN
set_option maxHeartbeats 1000000 in
theorem begin0_c {w0 : World} {H : List SA} {lp p : Nat} {pre : ByteArray} {t : LS} {s : DS} {M K : Nat} (hok : s.Ok M K) (hM : M ≤ 1000000) (hK : K ≤ 1000000000) (hK2 : 1000000 ≤ K) (hp : pre.size ≤ 1000) (hsl : t.segs.length ≤ 1000) (hs : t.segs.length = 0) {ra : Option Addr} {rc : Nat} {rs : List BS} [rk : RdC w0 H (.slice ra rs.length rc) 1 (rs.map BS.val)] [rke : RdE w0 H rs] (hr8 : rs.length ≤ 1000) (hrl : ∀ x ∈ rs, x.l.length ≤ 1000000) (htot : (recsB t.nx (rs.map BS.l)).length ≤ 1000000) (hnx : t.nx ≤ 1000000) :
    CT Tryz.prog w0 (lblk lp p pre t :: lrow t :: DS.H p s H) 72 [.pointer (some ⟨lp, 0, none⟩), .slice ra rs.length rc] (α := DS × LS × Int) (fun y => .int .i64 y.2.2) (fun y => pu (BeginR pre s t (rs.map BS.l) y.1 y.2.1 y.2.2) :: lblk lp p pre y.2.1 :: lrow y.2.1 :: DS.H p y.1 H) := by
  refine CT_intro Tryz.func72 rfl Tryz.ntmps72 rfl ?_
  refine T_seq ?_
  refine T_region ?_
  refine TL_q (Qt_assign (.int .i64 _) rfl) rfl ?_
  refine TL_nil ?_
  refine X_then ?_
  refine T_seq ?_
  refine T_region ?_
  refine TL_q (Qt_assign (.int .i64 _) rfl) rfl ?_
  refine TL_nil ?_
  refine X_then ?_
  refine T_seq ?_
  refine T_seq ?_
  refine T_region ?_
  refine TL_q (Qt_move (.pointer _) rfl) rfl ?_
  refine TL_q (Qt_nilCheck rfl) rfl ?_
  refine TL_q (Qt_fieldAddr 2 rfl rfl) rfl ?_
  refine TL_q (Qt_load1 rfl) rfl ?_
  refine TL_q (Qt_len_slice rfl Tryz.underlying129) rfl ?_
  refine TL_q (Qt_assign (.int .i64 _) rfl) rfl ?_
  refine TL_nil ?_
  refine X_then ?_
  refine T_seq ?_
  refine T_region ?_
  refine TL_q (Qt_move (.int .i64 _) rfl) rfl ?_
  refine TL_q (Qt_gtr rfl rfl) rfl ?_
  refine TL_nil ?_
  refine X_then ?_
  refine T_cond rfl (fun h18 => ?_) (fun h18 => ?_)
  ·
    have p18 := h18
    try simp only [decide_eq_true_eq, decide_eq_false_iff_not, Bool.not_eq_true', Bool.not_eq_false', Option.isNone_iff_eq_none, ne_eq, Decidable.not_not, Int.not_lt, Int.not_le] at p18
    exact absurd p18 (by omega)
  ·
    have p18 := h18
    try simp only [decide_eq_true_eq, decide_eq_false_iff_not, Bool.not_eq_true', Bool.not_eq_false', Option.isNone_iff_eq_none, ne_eq, Decidable.not_not, Int.not_lt, Int.not_le] at p18
    refine T_skip ?_
    refine X_then ?_
    refine T_seq ?_
    refine T_region ?_
    refine TL_q (Qt_assign (.slice _ _ _) rfl) rfl ?_
    refine TL_nil ?_
    refine X_then ?_
    refine T_seq ?_
    refine T_region ?_
    refine TL_q (Qt_move (.pointer _) rfl) rfl ?_
    refine TL_q (Qt_nilCheck rfl) rfl ?_
    refine TL_q (Qt_fieldAddr 4 rfl rfl) rfl ?_
    refine TL_q (Qt_load1 rfl) rfl ?_
    refine TL_q (Qt_assign (.int .u64 _) rfl) rfl ?_
    refine TL_nil ?_
    refine X_then ?_
    refine T_seq ?_
    refine T_seq ?_
    refine T_region ?_
    refine TL_q (Qt_move (.slice _ _ _) rfl) rfl ?_
    refine TL_q (Qt_len_slice rfl Tryz.underlying42) rfl ?_
    refine TL_q (Qt_move (.int .i64 _) rfl) rfl ?_
    refine TL_nil ?_
    refine X_then ?_
    refine T_block ?_
    refine T_loop [7, 8, 10, 34, 35, 36, 37, 38, 39, 40, 41, 42, 43, 44, 45] [34, 7, 8] (fun us H' => ∃ (k : Nat) (ba : Option Addr) (bc : Nat), us = [.int .i64 (k : Int), .slice ba (recsB t.nx ((rs.map BS.l).take k)).length bc, .int .u64 ((t.nx + k : Nat) : Int)] ∧ row (.slice ba (recsB t.nx ((rs.map BS.l).take k)).length bc) 5 1 (bytesV (recsB t.nx ((rs.map BS.l).take k))) :: lblk lp p pre t :: lrow t :: DS.H p s H = H' ∧ k ≤ rs.length) (fun us => match us with | .int _ i :: _ => rs.length - i.toNat | _ => 0) ⟨0, none, 0, by rw [recs0]; rfl, rfl, by omega⟩ (fun w hw => by rw [recs0]; exact (Subs.st inferInstance w hw : St w0 (lblk lp p pre t :: lrow t :: DS.H p s H) w).addNilB 5) ?_
    rintro τ0 _ _  ⟨k, ba, bc, rfl, rfl, hk0⟩ _
    refine T_seq ?_
    refine T_region ?_
    refine TL_q (Qt_lss rfl rfl) rfl ?_
    refine TL_nil ?_
    refine X_then ?_
    refine T_seq ?_
    refine T_cond rfl (fun h35 => ?_) (fun h35 => ?_)
    ·
      have p35 := h35
      try simp only [decide_eq_true_eq, decide_eq_false_iff_not, Bool.not_eq_true', Bool.not_eq_false', Option.isNone_iff_eq_none, ne_eq, Decidable.not_not, Int.not_lt, Int.not_le] at p35
      have hk : k < rs.length := by omega
      refine T_skip ?_
      refine X_then ?_
      refine T_seq ?_
      refine T_block ?_
      refine T_seq ?_
      refine T_region ?_
      refine TL_q (Qt_indexR rfl rfl (by omega) (by simp; omega)) rfl ?_
      refine TL_q (Qt_loadR (.slice _ _ _) rfl (vals_get _ _ hk)) rfl ?_
      refine TL_q (Qt_assign (.slice _ _ _) rfl) rfl ?_
      refine TL_nil ?_
      refine X_then ?_
      refine T_seq ?_
      refine T_region ?_
      refine TL_q (Qt_move (.slice _ _ _) rfl) rfl ?_
      refine TL_q (Qt_move (.int .u64 _) rfl) rfl ?_
      refine TL_q (Qt_move (.slice _ _ _) rfl) rfl ?_
      have : RdB w0 H (.slice rs[k].a rs[k].l.length rs[k].c) rs[k].l := rke.get (List.getElem_mem hk)
      refine TL_e rfl (Ef_call (told_c (n := t.nx + k) (by omega) (b := rs[k]) (by have := hrl _ (List.getElem_mem hk); omega)) rfl (fun x41 => ?_))
      refine TL_e rfl (Ef_appendB (sv := .slice _ _ _) (xv := .slice _ _ _) (l := recsB t.nx ((rs.map BS.l).take k)) (l' := toldB (t.nx + k) rs[k].l) rfl rfl (by have h1 := recs_len t.nx rs k; have h2 := (toldB_len (t.nx + k) (by omega) rs[k].l (by have := hrl _ (List.getElem_mem hk); omega)).1; have := hrl _ (List.getElem_mem hk); omega) rfl (fun a42 c42 => ?_))
      rw [show recsB t.nx ((rs.map BS.l).take k) ++ toldB (t.nx + k) rs[k].l = recsB t.nx ((rs.map BS.l).take (k + 1)) from recs_step hk]
      refine TL_q (Qt_assign (.slice _ _ _) rfl) rfl ?_
      refine TL_nil ?_
      refine X_then ?_
      refine T_region ?_
      refine TL_q (Qt_move (.int .u64 _) rfl) rfl ?_
      refine TL_q (Qt_val (Qt_addw rfl rfl) (congrArg (Value.int .u64) (show IntKind.u64.wrap (((t.nx + k : Nat) : Int) + 1) = ((t.nx + (k + 1) : Nat) : Int) from wrap_u64 (by omega) (by omega)))) rfl ?_
      refine TL_q (Qt_assign (.int .u64 _) rfl) rfl ?_
      refine TL_nil ?_
      refine X_block ?_
      refine X_then ?_
      refine T_region ?_
      first
        | refine TL_q (Qt_add rfl rfl (by omega) (by omega)) rfl ?_
        | refine TL_q (Qt_addw rfl rfl) rfl ?_
      refine TL_q (Qt_move (.int .i64 _) rfl) rfl ?_
      refine TL_nil ?_
      apply X_loop
      case ha => exact (by repeat (first | with_reducible exact agree_refl | refine agree_upd rfl ?_ | refine agree_mix rfl ?_ | refine agree_setAll rfl ?_))
      case hI => exact ⟨k + 1, a42, c42, rfl, rfl, by omega⟩
      case hm => exact by show rs.length - (k + 1 : Int).toNat < rs.length - (k : Int).toNat; omega
      case hH => exact (Subs.st inferInstance)
    ·
      have p35 := h35
      try simp only [decide_eq_true_eq, decide_eq_false_iff_not, Bool.not_eq_true', Bool.not_eq_false', Option.isNone_iff_eq_none, ne_eq, Decidable.not_not, Int.not_lt, Int.not_le] at p35
      have hkn : k = rs.length := by omega
      have htk : (rs.map BS.l).take k = (rs.map BS.l) := List.take_of_length_le (by simp; omega)
      rw [htk, hkn]
      refine T_exit ?_
      refine X_then_exit ?_
      refine X_loop_exit ?_
      refine X_block_exit ?_
      refine X_then ?_
      refine T_seq ?_
      refine T_seq ?_
      refine T_draw (row (.slice ba (recsB t.nx (rs.map BS.l)).length bc) 5 1 (bytesV (recsB t.nx (rs.map BS.l))) :: lblk lp p pre t :: lrow t :: H) [(0, true), (1, true), (2, true), (3, true), (4, true), (5, true), (7, true), (6, false), (8, false), (9, true)] (by kernel_rfl) (by kernel_rfl) rfl (by kernel_rfl) (Subs.st inferInstance) (fun hns0 => ?_)
      refine DL_q hns0 rfl (Qt_move (.pointer _) rfl) rfl ?_
      refine DL_q hns0 rfl (Qt_nilCheck rfl) rfl ?_
      refine DL_q hns0 rfl (Qt_fieldAddr 0 rfl rfl) rfl ?_
      refine DL_q hns0 rfl (Qt_load1 rfl) rfl ?_
      refine DL_q hns0 rfl (Qt_move (.pointer _) rfl) rfl ?_
      refine DL_q hns0 rfl (Qt_move (.int .i64 _) rfl) rfl ?_
      refine DL_q hns0 rfl (Qt_move (.slice _ _ _) rfl) rfl ?_
      refine DL_frontA (lblk lp p pre t) ?_
      refine DL_e rfl rfl (Ef_call (name_c (t := t) hp (i := 1) (by omega)) rfl (fun x52 => ⟨(Subs.st inferInstance), ?_⟩))
      refine DL_conv (fun w hw => (Subs.st inferInstance w hw : St w0 (DS.H p s (row (.slice ba (recsB t.nx (rs.map BS.l)).length bc) 5 1 (bytesV (recsB t.nx (rs.map BS.l))) :: lblk lp p pre t :: lrow t :: H)) w)) ?_
      refine DL_e rfl rfl (Ef_call (write_c (s := s) hok hM (by omega) (b := ⟨ba, bc, (recsB t.nx (rs.map BS.l))⟩) (by show (recsB t.nx (rs.map BS.l)).length ≤ 2000000; omega) (by show (recsB t.nx (rs.map BS.l)).length ≤ K; omega)) rfl (fun x54 => ⟨(Subs.st inferInstance), ?_⟩))
      refine DL_pure (fun hw54 => ?_)
      refine DL_q hns0 rfl (Qt_assign (.int .i64 _) rfl) rfl ?_
      refine DL_nil ?_
      refine X_then ?_
      refine T_seq ?_
      refine T_region ?_
      refine TL_q (Qt_move (.int .i64 _) rfl) rfl ?_
      refine TL_q (Qt_neq rfl rfl) rfl ?_
      refine TL_nil ?_
      refine X_then ?_
      refine T_cond rfl (fun h56 => ?_) (fun h56 => ?_)
      ·
        have p56 := h56
        try simp only [decide_eq_true_eq, decide_eq_false_iff_not, Bool.not_eq_true', Bool.not_eq_false', Option.isNone_iff_eq_none, ne_eq, Decidable.not_not, Int.not_lt, Int.not_le] at p56
        refine T_seq ?_
        refine T_region ?_
        refine TL_q (Qt_move (.int .i64 _) rfl) rfl ?_
        refine TL_q (Qt_assign (.int .i64 _) rfl) rfl ?_
        refine TL_nil ?_
        refine X_then ?_
        refine T_ret ?_
        refine X_then_ret ?_
        have e2 : newN t.segs = 1 := if_pos hs
        exact X_ret (x54.1, t, x54.2) [_] Tryz.results72 ⟨rfl, trivial⟩ rfl (fun w hw => (Subs.st inferInstance w hw : St w0 (lblk lp p pre t :: lrow t :: DS.H p x54.1 H) w).addPure ⟨by rw [e2]; exact hw54, fun _ => rfl, fun h => absurd h p56⟩)
      ·
        have p56 := h56
        try simp only [decide_eq_true_eq, decide_eq_false_iff_not, Bool.not_eq_true', Bool.not_eq_false', Option.isNone_iff_eq_none, ne_eq, Decidable.not_not, Int.not_lt, Int.not_le] at p56
        refine T_skip ?_
        refine X_then ?_
        refine T_seq ?_
        refine T_region ?_
        refine TL_q (Qt_move (.pointer _) rfl) rfl ?_
        refine TL_q (Qt_move (.pointer _) rfl) rfl ?_
        refine TL_q (Qt_nilCheck rfl) rfl ?_
        refine TL_q (Qt_fieldAddr 2 rfl rfl) rfl ?_
        refine TL_q (Qt_load1 rfl) rfl ?_
        refine TL_q (Qt_move (.int .i64 _) rfl) rfl ?_
        refine TL_e rfl (Ef_slice1 (v := .int .i64 ((1 : Nat) : Int)) rfl (fun a64 c64 => ?_))
        refine TL_e rfl (Ef_appendO (lblk lp p pre t :: DS.H p x54.1 H) (sv := .slice _ _ _) (xv := .slice _ _ _) (xs := t.segs.map encI) (news := [.int .i64 ((1 : Nat) : Int)]) rfl rfl (fun w hw => (Subs.st inferInstance w hw)) (fun u hu => by obtain rfl : u = _ := (by simpa using hu); rfl) (by simp) (by simp; omega) rfl (fun a65 c65 => ?_))
        rw [show t.segs.map encI ++ [.int .i64 ((1 : Nat) : Int)] = (t.segs ++ [1]).map encI from by rw [List.map_append]; rfl, List.length_map]
        refine TL_q (Qt_nilCheck rfl) rfl ?_
        refine TL_q (Qt_fieldAddr 2 rfl rfl) rfl ?_
        refine TL_n (Ef_store1 (.slice _ _ _) rfl rfl (?_))
        refine TL_nil ?_
        refine X_then ?_
        refine T_seq ?_
        refine T_region ?_
        refine TL_q (Qt_move (.pointer _) rfl) rfl ?_
        refine TL_q (Qt_move (.pointer _) rfl) rfl ?_
        refine TL_q (Qt_move (.slice _ _ _) rfl) rfl ?_
        refine TL_q (Qt_len_slice rfl Tryz.underlying41) rfl ?_
        refine TL_q (Qt_move (.int .u64 _) rfl) rfl ?_
        refine TL_q (Qt_nilCheck rfl) rfl ?_
        refine TL_q (Qt_fieldAddr 3 rfl rfl) rfl ?_
        refine TL_n (Ef_store1 (.int .i64 _) rfl rfl (?_))
        refine TL_q (Qt_nilCheck rfl) rfl ?_
        refine TL_q (Qt_fieldAddr 4 rfl rfl) rfl ?_
        refine TL_n (Ef_store1 (.int .u64 _) rfl rfl (?_))
        refine TL_nil ?_
        refine X_then ?_
        refine T_seq ?_
        refine T_region ?_
        refine TL_q (Qt_assign (.int .i64 _) rfl) rfl ?_
        refine TL_nil ?_
        refine X_then ?_
        refine T_ret ?_
        have e2 : newN t.segs = 1 := if_pos hs
        have h0 : x54.2 = 0 := by omega
        exact X_ret (x54.1, (⟨a65, c65, t.segs ++ [1], (recsB t.nx (rs.map BS.l)).length, t.nx + rs.length, t.bg⟩ : LS), x54.2) [_] Tryz.results72 ⟨rfl, trivial⟩ (by rw [h0]; rfl) (fun w hw => (Subs.st inferInstance w hw : St w0 (lblk lp p pre (⟨a65, c65, t.segs ++ [1], (recsB t.nx (rs.map BS.l)).length, t.nx + rs.length, t.bg⟩ : LS) :: lrow (⟨a65, c65, t.segs ++ [1], (recsB t.nx (rs.map BS.l)).length, t.nx + rs.length, t.bg⟩ : LS) :: DS.H p x54.1 H) w).addPure ⟨by rw [e2]; exact hw54, fun h => absurd h0 h, fun _ => ⟨by rw [e2], rfl, by rw [List.length_map], rfl⟩⟩)
set_option maxHeartbeats 1000000 in
theorem begin1_c {w0 : World} {H : List SA} {lp p : Nat} {pre : ByteArray} {t : LS} {s : DS} {M K : Nat} (hok : s.Ok M K) (hM : M ≤ 1000000) (hK : K ≤ 1000000000) (hK2 : 1000000 ≤ K) (hp : pre.size ≤ 1000) (hsl : t.segs.length ≤ 1000) (hs : 0 < t.segs.length) (hlast : lastN t.segs < 99) {ra : Option Addr} {rc : Nat} {rs : List BS} [rk : RdC w0 H (.slice ra rs.length rc) 1 (rs.map BS.val)] [rke : RdE w0 H rs] (hr8 : rs.length ≤ 1000) (hrl : ∀ x ∈ rs, x.l.length ≤ 1000000) (htot : (recsB t.nx (rs.map BS.l)).length ≤ 1000000) (hnx : t.nx ≤ 1000000) :
    CT Tryz.prog w0 (lblk lp p pre t :: lrow t :: DS.H p s H) 72 [.pointer (some ⟨lp, 0, none⟩), .slice ra rs.length rc] (α := DS × LS × Int) (fun y => .int .i64 y.2.2) (fun y => pu (BeginR pre s t (rs.map BS.l) y.1 y.2.1 y.2.2) :: lblk lp p pre y.2.1 :: lrow y.2.1 :: DS.H p y.1 H) := by
  refine CT_intro Tryz.func72 rfl Tryz.ntmps72 rfl ?_
  refine T_seq ?_
  refine T_region ?_
  refine TL_q (Qt_assign (.int .i64 _) rfl) rfl ?_
  refine TL_nil ?_
  refine X_then ?_
  refine T_seq ?_
  refine T_region ?_
  refine TL_q (Qt_assign (.int .i64 _) rfl) rfl ?_
  refine TL_nil ?_
  refine X_then ?_
  refine T_seq ?_
  refine T_seq ?_
  refine T_region ?_
  refine TL_q (Qt_move (.pointer _) rfl) rfl ?_
  refine TL_q (Qt_nilCheck rfl) rfl ?_
  refine TL_q (Qt_fieldAddr 2 rfl rfl) rfl ?_
  refine TL_q (Qt_load1 rfl) rfl ?_
  refine TL_q (Qt_len_slice rfl Tryz.underlying129) rfl ?_
  refine TL_q (Qt_assign (.int .i64 _) rfl) rfl ?_
  refine TL_nil ?_
  refine X_then ?_
  refine T_seq ?_
  refine T_region ?_
  refine TL_q (Qt_move (.int .i64 _) rfl) rfl ?_
  refine TL_q (Qt_gtr rfl rfl) rfl ?_
  refine TL_nil ?_
  refine X_then ?_
  refine T_cond rfl (fun h18 => ?_) (fun h18 => ?_)
  ·
    have p18 := h18
    try simp only [decide_eq_true_eq, decide_eq_false_iff_not, Bool.not_eq_true', Bool.not_eq_false', Option.isNone_iff_eq_none, ne_eq, Decidable.not_not, Int.not_lt, Int.not_le] at p18
    refine T_region ?_
    refine TL_q (Qt_move (.pointer _) rfl) rfl ?_
    refine TL_q (Qt_nilCheck rfl) rfl ?_
    refine TL_q (Qt_fieldAddr 2 rfl rfl) rfl ?_
    refine TL_q (Qt_load1 rfl) rfl ?_
    refine TL_q (Qt_move (.int .i64 _) rfl) rfl ?_
    first
      | refine TL_q (Qt_sub rfl rfl (by omega) (by omega)) rfl ?_
      | refine TL_q (Qt_subw rfl rfl) rfl ?_
    refine TL_q (Qt_indexR rfl rfl (by omega) (by rw [List.length_map]; omega)) rfl ?_
    refine TL_q (Qt_loadR (.int .i64 ((lastN t.segs : Nat) : Int)) rfl (last_get hs)) rfl ?_
    first
      | refine TL_q (Qt_add rfl rfl (by omega) (by omega)) rfl ?_
      | refine TL_q (Qt_addw rfl rfl) rfl ?_
    refine TL_q (Qt_assign (.int .i64 _) rfl) rfl ?_
    refine TL_nil ?_
    refine X_then ?_
    refine T_seq ?_
    refine T_region ?_
    refine TL_q (Qt_assign (.slice _ _ _) rfl) rfl ?_
    refine TL_nil ?_
    refine X_then ?_
    refine T_seq ?_
    refine T_region ?_
    refine TL_q (Qt_move (.pointer _) rfl) rfl ?_
    refine TL_q (Qt_nilCheck rfl) rfl ?_
    refine TL_q (Qt_fieldAddr 4 rfl rfl) rfl ?_
    refine TL_q (Qt_load1 rfl) rfl ?_
    refine TL_q (Qt_assign (.int .u64 _) rfl) rfl ?_
    refine TL_nil ?_
    refine X_then ?_
    refine T_seq ?_
    refine T_seq ?_
    refine T_region ?_
    refine TL_q (Qt_move (.slice _ _ _) rfl) rfl ?_
    refine TL_q (Qt_len_slice rfl Tryz.underlying42) rfl ?_
    refine TL_q (Qt_move (.int .i64 _) rfl) rfl ?_
    refine TL_nil ?_
    refine X_then ?_
    refine T_block ?_
    refine T_loop [7, 8, 10, 34, 35, 36, 37, 38, 39, 40, 41, 42, 43, 44, 45] [34, 7, 8] (fun us H' => ∃ (k : Nat) (ba : Option Addr) (bc : Nat), us = [.int .i64 (k : Int), .slice ba (recsB t.nx ((rs.map BS.l).take k)).length bc, .int .u64 ((t.nx + k : Nat) : Int)] ∧ row (.slice ba (recsB t.nx ((rs.map BS.l).take k)).length bc) 5 1 (bytesV (recsB t.nx ((rs.map BS.l).take k))) :: lblk lp p pre t :: lrow t :: DS.H p s H = H' ∧ k ≤ rs.length) (fun us => match us with | .int _ i :: _ => rs.length - i.toNat | _ => 0) ⟨0, none, 0, by rw [recs0]; rfl, rfl, by omega⟩ (fun w hw => by rw [recs0]; exact (Subs.st inferInstance w hw : St w0 (lblk lp p pre t :: lrow t :: DS.H p s H) w).addNilB 5) ?_
    rintro τ0 _ _  ⟨k, ba, bc, rfl, rfl, hk0⟩ _
    refine T_seq ?_
    refine T_region ?_
    refine TL_q (Qt_lss rfl rfl) rfl ?_
    refine TL_nil ?_
    refine X_then ?_
    refine T_seq ?_
    refine T_cond rfl (fun h35 => ?_) (fun h35 => ?_)
    ·
      have p35 := h35
      try simp only [decide_eq_true_eq, decide_eq_false_iff_not, Bool.not_eq_true', Bool.not_eq_false', Option.isNone_iff_eq_none, ne_eq, Decidable.not_not, Int.not_lt, Int.not_le] at p35
      have hk : k < rs.length := by omega
      refine T_skip ?_
      refine X_then ?_
      refine T_seq ?_
      refine T_block ?_
      refine T_seq ?_
      refine T_region ?_
      refine TL_q (Qt_indexR rfl rfl (by omega) (by simp; omega)) rfl ?_
      refine TL_q (Qt_loadR (.slice _ _ _) rfl (vals_get _ _ hk)) rfl ?_
      refine TL_q (Qt_assign (.slice _ _ _) rfl) rfl ?_
      refine TL_nil ?_
      refine X_then ?_
      refine T_seq ?_
      refine T_region ?_
      refine TL_q (Qt_move (.slice _ _ _) rfl) rfl ?_
      refine TL_q (Qt_move (.int .u64 _) rfl) rfl ?_
      refine TL_q (Qt_move (.slice _ _ _) rfl) rfl ?_
      have : RdB w0 H (.slice rs[k].a rs[k].l.length rs[k].c) rs[k].l := rke.get (List.getElem_mem hk)
      refine TL_e rfl (Ef_call (told_c (n := t.nx + k) (by omega) (b := rs[k]) (by have := hrl _ (List.getElem_mem hk); omega)) rfl (fun x41 => ?_))
      refine TL_e rfl (Ef_appendB (sv := .slice _ _ _) (xv := .slice _ _ _) (l := recsB t.nx ((rs.map BS.l).take k)) (l' := toldB (t.nx + k) rs[k].l) rfl rfl (by have h1 := recs_len t.nx rs k; have h2 := (toldB_len (t.nx + k) (by omega) rs[k].l (by have := hrl _ (List.getElem_mem hk); omega)).1; have := hrl _ (List.getElem_mem hk); omega) rfl (fun a42 c42 => ?_))
      rw [show recsB t.nx ((rs.map BS.l).take k) ++ toldB (t.nx + k) rs[k].l = recsB t.nx ((rs.map BS.l).take (k + 1)) from recs_step hk]
      refine TL_q (Qt_assign (.slice _ _ _) rfl) rfl ?_
      refine TL_nil ?_
      refine X_then ?_
      refine T_region ?_
      refine TL_q (Qt_move (.int .u64 _) rfl) rfl ?_
      refine TL_q (Qt_val (Qt_addw rfl rfl) (congrArg (Value.int .u64) (show IntKind.u64.wrap (((t.nx + k : Nat) : Int) + 1) = ((t.nx + (k + 1) : Nat) : Int) from wrap_u64 (by omega) (by omega)))) rfl ?_
      refine TL_q (Qt_assign (.int .u64 _) rfl) rfl ?_
      refine TL_nil ?_
      refine X_block ?_
      refine X_then ?_
      refine T_region ?_
      first
        | refine TL_q (Qt_add rfl rfl (by omega) (by omega)) rfl ?_
        | refine TL_q (Qt_addw rfl rfl) rfl ?_
      refine TL_q (Qt_move (.int .i64 _) rfl) rfl ?_
      refine TL_nil ?_
      apply X_loop
      case ha => exact (by repeat (first | with_reducible exact agree_refl | refine agree_upd rfl ?_ | refine agree_mix rfl ?_ | refine agree_setAll rfl ?_))
      case hI => exact ⟨k + 1, a42, c42, rfl, rfl, by omega⟩
      case hm => exact by show rs.length - (k + 1 : Int).toNat < rs.length - (k : Int).toNat; omega
      case hH => exact (Subs.st inferInstance)
    ·
      have p35 := h35
      try simp only [decide_eq_true_eq, decide_eq_false_iff_not, Bool.not_eq_true', Bool.not_eq_false', Option.isNone_iff_eq_none, ne_eq, Decidable.not_not, Int.not_lt, Int.not_le] at p35
      have hkn : k = rs.length := by omega
      have htk : (rs.map BS.l).take k = (rs.map BS.l) := List.take_of_length_le (by simp; omega)
      rw [htk, hkn]
      refine T_exit ?_
      refine X_then_exit ?_
      refine X_loop_exit ?_
      refine X_block_exit ?_
      refine X_then ?_
      refine T_seq ?_
      refine T_seq ?_
      refine T_draw (row (.slice ba (recsB t.nx (rs.map BS.l)).length bc) 5 1 (bytesV (recsB t.nx (rs.map BS.l))) :: lblk lp p pre t :: lrow t :: H) [(0, true), (1, true), (2, true), (3, true), (4, true), (5, true), (7, true), (6, false), (8, false), (9, true)] (by kernel_rfl) (by kernel_rfl) rfl (by kernel_rfl) (Subs.st inferInstance) (fun hns0 => ?_)
      refine DL_q hns0 rfl (Qt_move (.pointer _) rfl) rfl ?_
      refine DL_q hns0 rfl (Qt_nilCheck rfl) rfl ?_
      refine DL_q hns0 rfl (Qt_fieldAddr 0 rfl rfl) rfl ?_
      refine DL_q hns0 rfl (Qt_load1 rfl) rfl ?_
      refine DL_q hns0 rfl (Qt_move (.pointer _) rfl) rfl ?_
      refine DL_q hns0 rfl (Qt_move (.int .i64 _) rfl) rfl ?_
      refine DL_q hns0 rfl (Qt_move (.slice _ _ _) rfl) rfl ?_
      refine DL_frontA (lblk lp p pre t) ?_
      refine DL_e rfl rfl (Ef_call (name_c (t := t) hp (i := (lastN t.segs + 1)) (by omega)) rfl (fun x52 => ⟨(Subs.st inferInstance), ?_⟩))
      refine DL_conv (fun w hw => (Subs.st inferInstance w hw : St w0 (DS.H p s (row (.slice ba (recsB t.nx (rs.map BS.l)).length bc) 5 1 (bytesV (recsB t.nx (rs.map BS.l))) :: lblk lp p pre t :: lrow t :: H)) w)) ?_
      refine DL_e rfl rfl (Ef_call (write_c (s := s) hok hM (by omega) (b := ⟨ba, bc, (recsB t.nx (rs.map BS.l))⟩) (by show (recsB t.nx (rs.map BS.l)).length ≤ 2000000; omega) (by show (recsB t.nx (rs.map BS.l)).length ≤ K; omega)) rfl (fun x54 => ⟨(Subs.st inferInstance), ?_⟩))
      refine DL_pure (fun hw54 => ?_)
      refine DL_q hns0 rfl (Qt_assign (.int .i64 _) rfl) rfl ?_
      refine DL_nil ?_
      refine X_then ?_
      refine T_seq ?_
      refine T_region ?_
      refine TL_q (Qt_move (.int .i64 _) rfl) rfl ?_
      refine TL_q (Qt_neq rfl rfl) rfl ?_
      refine TL_nil ?_
      refine X_then ?_
      refine T_cond rfl (fun h56 => ?_) (fun h56 => ?_)
      ·
        have p56 := h56
        try simp only [decide_eq_true_eq, decide_eq_false_iff_not, Bool.not_eq_true', Bool.not_eq_false', Option.isNone_iff_eq_none, ne_eq, Decidable.not_not, Int.not_lt, Int.not_le] at p56
        refine T_seq ?_
        refine T_region ?_
        refine TL_q (Qt_move (.int .i64 _) rfl) rfl ?_
        refine TL_q (Qt_assign (.int .i64 _) rfl) rfl ?_
        refine TL_nil ?_
        refine X_then ?_
        refine T_ret ?_
        refine X_then_ret ?_
        have e2 : newN t.segs = (lastN t.segs + 1) := if_neg (by omega)
        exact X_ret (x54.1, t, x54.2) [_] Tryz.results72 ⟨rfl, trivial⟩ rfl (fun w hw => (Subs.st inferInstance w hw : St w0 (lblk lp p pre t :: lrow t :: DS.H p x54.1 H) w).addPure ⟨by rw [e2]; exact hw54, fun _ => rfl, fun h => absurd h p56⟩)
      ·
        have p56 := h56
        try simp only [decide_eq_true_eq, decide_eq_false_iff_not, Bool.not_eq_true', Bool.not_eq_false', Option.isNone_iff_eq_none, ne_eq, Decidable.not_not, Int.not_lt, Int.not_le] at p56
        refine T_skip ?_
        refine X_then ?_
        refine T_seq ?_
        refine T_region ?_
        refine TL_q (Qt_move (.pointer _) rfl) rfl ?_
        refine TL_q (Qt_move (.pointer _) rfl) rfl ?_
        refine TL_q (Qt_nilCheck rfl) rfl ?_
        refine TL_q (Qt_fieldAddr 2 rfl rfl) rfl ?_
        refine TL_q (Qt_load1 rfl) rfl ?_
        refine TL_q (Qt_move (.int .i64 _) rfl) rfl ?_
        refine TL_e rfl (Ef_slice1 (v := .int .i64 (((lastN t.segs + 1) : Nat) : Int)) rfl (fun a64 c64 => ?_))
        refine TL_e rfl (Ef_appendO (lblk lp p pre t :: DS.H p x54.1 H) (sv := .slice _ _ _) (xv := .slice _ _ _) (xs := t.segs.map encI) (news := [.int .i64 (((lastN t.segs + 1) : Nat) : Int)]) rfl rfl (fun w hw => (Subs.st inferInstance w hw)) (fun u hu => by obtain rfl : u = _ := (by simpa using hu); rfl) (by simp) (by simp; omega) rfl (fun a65 c65 => ?_))
        rw [show t.segs.map encI ++ [.int .i64 (((lastN t.segs + 1) : Nat) : Int)] = (t.segs ++ [(lastN t.segs + 1)]).map encI from by rw [List.map_append]; rfl, List.length_map]
        refine TL_q (Qt_nilCheck rfl) rfl ?_
        refine TL_q (Qt_fieldAddr 2 rfl rfl) rfl ?_
        refine TL_n (Ef_store1 (.slice _ _ _) rfl rfl (?_))
        refine TL_nil ?_
        refine X_then ?_
        refine T_seq ?_
        refine T_region ?_
        refine TL_q (Qt_move (.pointer _) rfl) rfl ?_
        refine TL_q (Qt_move (.pointer _) rfl) rfl ?_
        refine TL_q (Qt_move (.slice _ _ _) rfl) rfl ?_
        refine TL_q (Qt_len_slice rfl Tryz.underlying41) rfl ?_
        refine TL_q (Qt_move (.int .u64 _) rfl) rfl ?_
        refine TL_q (Qt_nilCheck rfl) rfl ?_
        refine TL_q (Qt_fieldAddr 3 rfl rfl) rfl ?_
        refine TL_n (Ef_store1 (.int .i64 _) rfl rfl (?_))
        refine TL_q (Qt_nilCheck rfl) rfl ?_
        refine TL_q (Qt_fieldAddr 4 rfl rfl) rfl ?_
        refine TL_n (Ef_store1 (.int .u64 _) rfl rfl (?_))
        refine TL_nil ?_
        refine X_then ?_
        refine T_seq ?_
        refine T_region ?_
        refine TL_q (Qt_assign (.int .i64 _) rfl) rfl ?_
        refine TL_nil ?_
        refine X_then ?_
        refine T_ret ?_
        have e2 : newN t.segs = (lastN t.segs + 1) := if_neg (by omega)
        have h0 : x54.2 = 0 := by omega
        exact X_ret (x54.1, (⟨a65, c65, t.segs ++ [(lastN t.segs + 1)], (recsB t.nx (rs.map BS.l)).length, t.nx + rs.length, t.bg⟩ : LS), x54.2) [_] Tryz.results72 ⟨rfl, trivial⟩ (by rw [h0]; rfl) (fun w hw => (Subs.st inferInstance w hw : St w0 (lblk lp p pre (⟨a65, c65, t.segs ++ [(lastN t.segs + 1)], (recsB t.nx (rs.map BS.l)).length, t.nx + rs.length, t.bg⟩ : LS) :: lrow (⟨a65, c65, t.segs ++ [(lastN t.segs + 1)], (recsB t.nx (rs.map BS.l)).length, t.nx + rs.length, t.bg⟩ : LS) :: DS.H p x54.1 H) w).addPure ⟨by rw [e2]; exact hw54, fun h => absurd h0 h, fun _ => ⟨by rw [e2], rfl, by rw [List.length_map], rfl⟩⟩)
  ·
    have p18 := h18
    try simp only [decide_eq_true_eq, decide_eq_false_iff_not, Bool.not_eq_true', Bool.not_eq_false', Option.isNone_iff_eq_none, ne_eq, Decidable.not_not, Int.not_lt, Int.not_le] at p18
    exact absurd p18 (by omega)
end
section
open Go.RowKit Go.Sx
set_option maxRecDepth 100000
set_option linter.unusedSimpArgs false
set_option linter.unusedVariables false
theorem begin_c {w0 : World} {H : List SA} {lp p : Nat} {pre : ByteArray} {t : LS} {s : DS} {M K : Nat} (hok : s.Ok M K) (hM : M ≤ 1000000) (hK : K ≤ 1000000000) (hK2 : 1000000 ≤ K) (hp : pre.size ≤ 1000) (hsl : t.segs.length ≤ 1000) (hlast : lastN t.segs < 99) {ra : Option Addr} {rc : Nat} {rs : List BS} [rk : RdC w0 H (.slice ra rs.length rc) 1 (rs.map BS.val)] [rke : RdE w0 H rs] (hr8 : rs.length ≤ 1000) (hrl : ∀ x ∈ rs, x.l.length ≤ 1000000) (htot : (recsB t.nx (rs.map BS.l)).length ≤ 1000000) (hnx : t.nx ≤ 1000000) :
    CT Tryz.prog w0 (lblk lp p pre t :: lrow t :: DS.H p s H) 72 [.pointer (some ⟨lp, 0, none⟩), .slice ra rs.length rc] (α := DS × LS × Int) (fun y => .int .i64 y.2.2) (fun y => pu (BeginR pre s t (rs.map BS.l) y.1 y.2.1 y.2.2) :: lblk lp p pre y.2.1 :: lrow y.2.1 :: DS.H p y.1 H) := by
  by_cases hs : t.segs.length = 0
  · exact begin0_c hok hM hK hK2 hp hsl hs hr8 hrl htot hnx
  · exact begin1_c hok hM hK hK2 hp hsl (by omega) hlast hr8 hrl htot hnx
theorem recs_one (n : Nat) (l : List UInt8) : recsB n [l] = toldB n l := by simp only [recsB, List.append_nil]
theorem RdE_one {w0 : World} {H : List SA} {b : BS} [h : RdB w0 H (.slice b.a b.l.length b.c) b.l] : RdE w0 H [b] := ⟨fun x hx w hw => by
  obtain rfl : x = b := by simpa using hx
  exact h.rd w hw⟩
def AppendR (pre : ByteArray) (s : DS) (t : LS) (l : List UInt8) (s' : DS) (t' : LS) (e : Int) : Prop :=
  ((t.segs.length = 0 ∨ 2048 ≤ t.siz) ∧ BeginR pre s t [l] s' t' e) ∨
  (¬ (t.segs.length = 0 ∨ 2048 ≤ t.siz) ∧ AppR 1 0 s (nmB pre (lastN t.segs)) (toldB t.nx l) s' e ∧ (e ≠ 0 → t' = t) ∧ (e = 0 → t'.segs = t.segs ∧ t'.siz = t.siz + (toldB t.nx l).length ∧ t'.nx = t.nx + 1 ∧ t'.bg = t.bg))
theorem fineB_t {s : ByteArray} (h1 : 1 ≤ s.size) (h2 : s.size ≤ 8) : fineB s = decide (Lib.idxFunc fineF true s < 0) := by
  unfold fineB; rw [decide_eq_true h1, decide_eq_true h2]; simp
theorem fineB_f {s : ByteArray} (h : ¬ (1 ≤ s.size ∧ s.size ≤ 8)) : fineB s = false := by
  unfold fineB
  by_cases h1 : 1 ≤ s.size
  · rw [decide_eq_false (show ¬ s.size ≤ 8 by omega)]; simp
  · rw [decide_eq_false h1]; simp
attribute [local irreducible] toldB recsB nmB lastN
set_option maxHeartbeats 1000000 in
theorem lappend_c {w0 : World} {H : List SA} {lp p : Nat} {pre : ByteArray} {t : LS} {s : DS} {M K : Nat} (hok : s.Ok M K) (hM : M ≤ 1000000) (hK : K ≤ 1000000000) (hK2 : 1000000 ≤ K) (hp : pre.size ≤ 1000) (hsl : t.segs.length ≤ 1000) (hlast : lastN t.segs < 99) (hsz : t.siz ≤ 100000) (hnx : t.nx ≤ 1000000) {b : BS} [rb : RdB w0 H (.slice b.a b.l.length b.c) b.l] (hb : b.l.length ≤ 40000) :
    CT Tryz.prog w0 (lblk lp p pre t :: lrow t :: DS.H p s H) 33 [.pointer (some ⟨lp, 0, none⟩), .slice b.a b.l.length b.c] (α := DS × LS × Int) (fun y => .int .i64 y.2.2) (fun y => pu (AppendR pre s t b.l y.1 y.2.1 y.2.2) :: lblk lp p pre y.2.1 :: lrow y.2.1 :: DS.H p y.1 H) := by
  refine CT_intro Tryz.func33 rfl Tryz.ntmps33 rfl ?_
  refine T_seq ?_
  refine T_region ?_
  refine TL_q (Qt_assign (.int .i64 _) rfl) rfl ?_
  refine TL_nil ?_
  refine X_then ?_
  refine T_seq ?_
  refine T_seq ?_
  refine T_region ?_
  refine TL_q (Qt_move (.pointer _) rfl) rfl ?_
  refine TL_q (Qt_ptr_nil rfl rfl Tryz.underlying78) rfl ?_
  refine TL_nil ?_
  refine X_then ?_
  refine T_cond_false rfl (by first | rfl | decide) ?_
  refine T_skip ?_
  refine X_then ?_
  refine T_seq ?_
  refine T_seq ?_
  refine T_region ?_
  refine TL_q (Qt_move (.pointer _) rfl) rfl ?_
  refine TL_q (Qt_nilCheck rfl) rfl ?_
  refine TL_q (Qt_fieldAddr 2 rfl rfl) rfl ?_
  refine TL_q (Qt_load1 rfl) rfl ?_
  refine TL_q (Qt_len_slice rfl Tryz.underlying129) rfl ?_
  refine TL_q (Qt_eql rfl rfl) rfl ?_
  refine TL_nil ?_
  refine X_then ?_
  refine T_cond rfl (fun h14 => ?_) (fun h14 => ?_)
  ·
    have p14 := h14
    try simp only [decide_eq_true_eq, decide_eq_false_iff_not, Bool.not_eq_true', Bool.not_eq_false', Option.isNone_iff_eq_none, ne_eq, Decidable.not_not, Int.not_lt, Int.not_le] at p14
    refine T_seq ?_
    refine T_region ?_
    refine TL_q (Qt_move (.pointer _) rfl) rfl ?_
    refine TL_q (Qt_move (.slice _ _ _) rfl) rfl ?_
    refine TL_e rfl (Ef_slice1 (v := (.slice _ _ _)) rfl (fun a17 c17 => ?_))
    refine TL_conv (fun w hw => (Subs.st inferInstance w hw : St w0 (lblk lp p pre t :: lrow t :: DS.H p s (row (.slice a17 1 c17) 41 1 [.slice b.a b.l.length b.c] :: H)) w)) ?_
    refine TL_e rfl (Ef_call (begin_c (s := s) (t := t) (rs := [b]) (rk := (inferInstanceAs (RdC w0 (row (.slice a17 1 c17) 41 1 [.slice b.a b.l.length b.c] :: H) (.slice a17 1 c17) 1 [.slice b.a b.l.length b.c]))) (rke := RdE_one) hok hM hK hK2 hp hsl hlast (by simp) (fun x hx => by obtain rfl : x = b := (by simpa using hx); omega) (by rw [show ([b].map BS.l) = [b.l] from rfl, recs_one]; have := toldB_len t.nx (by omega) b.l (by omega); omega) hnx) rfl (fun x18 => ?_))
    refine TL_pure (fun hb18 => ?_)
    refine TL_q (Qt_assign (.int .i64 _) rfl) rfl ?_
    refine TL_nil ?_
    refine X_then ?_
    refine T_ret ?_
    refine X_then_ret ?_
    exact X_ret x18 [_] Tryz.results33 ⟨rfl, trivial⟩ rfl (fun w hw => (Subs.st inferInstance w hw : St w0 (lblk lp p pre x18.2.1 :: lrow x18.2.1 :: DS.H p x18.1 H) w).addPure (.inl ⟨.inl (by omega), hb18⟩))
  ·
    have p14 := h14
    try simp only [decide_eq_true_eq, decide_eq_false_iff_not, Bool.not_eq_true', Bool.not_eq_false', Option.isNone_iff_eq_none, ne_eq, Decidable.not_not, Int.not_lt, Int.not_le] at p14
    refine T_skip ?_
    refine X_then ?_
    refine T_seq ?_
    refine T_seq ?_
    refine T_region ?_
    refine TL_q (Qt_move (.pointer _) rfl) rfl ?_
    refine TL_q (Qt_nilCheck rfl) rfl ?_
    refine TL_q (Qt_fieldAddr 3 rfl rfl) rfl ?_
    refine TL_q (Qt_load1 rfl) rfl ?_
    refine TL_q (Qt_geq rfl rfl) rfl ?_
    refine TL_nil ?_
    refine X_then ?_
    refine T_cond rfl (fun h23 => ?_) (fun h23 => ?_)
    ·
      have p23 := h23
      try simp only [decide_eq_true_eq, decide_eq_false_iff_not, Bool.not_eq_true', Bool.not_eq_false', Option.isNone_iff_eq_none, ne_eq, Decidable.not_not, Int.not_lt, Int.not_le] at p23
      refine T_seq ?_
      refine T_region ?_
      refine TL_q (Qt_move (.pointer _) rfl) rfl ?_
      refine TL_q (Qt_move (.slice _ _ _) rfl) rfl ?_
      refine TL_e rfl (Ef_slice1 (v := (.slice _ _ _)) rfl (fun a26 c26 => ?_))
      refine TL_conv (fun w hw => (Subs.st inferInstance w hw : St w0 (lblk lp p pre t :: lrow t :: DS.H p s (row (.slice a26 1 c26) 41 1 [.slice b.a b.l.length b.c] :: H)) w)) ?_
      refine TL_e rfl (Ef_call (begin_c (s := s) (t := t) (rs := [b]) (rk := (inferInstanceAs (RdC w0 (row (.slice a26 1 c26) 41 1 [.slice b.a b.l.length b.c] :: H) (.slice a26 1 c26) 1 [.slice b.a b.l.length b.c]))) (rke := RdE_one) hok hM hK hK2 hp hsl hlast (by simp) (fun x hx => by obtain rfl : x = b := (by simpa using hx); omega) (by rw [show ([b].map BS.l) = [b.l] from rfl, recs_one]; have := toldB_len t.nx (by omega) b.l (by omega); omega) hnx) rfl (fun x27 => ?_))
      refine TL_pure (fun hb27 => ?_)
      refine TL_q (Qt_assign (.int .i64 _) rfl) rfl ?_
      refine TL_nil ?_
      refine X_then ?_
      refine T_ret ?_
      refine X_then_ret ?_
      exact X_ret x27 [_] Tryz.results33 ⟨rfl, trivial⟩ rfl (fun w hw => (Subs.st inferInstance w hw : St w0 (lblk lp p pre x27.2.1 :: lrow x27.2.1 :: DS.H p x27.1 H) w).addPure (.inl ⟨.inr (by omega), hb27⟩))
    ·
      have p23 := h23
      try simp only [decide_eq_true_eq, decide_eq_false_iff_not, Bool.not_eq_true', Bool.not_eq_false', Option.isNone_iff_eq_none, ne_eq, Decidable.not_not, Int.not_lt, Int.not_le] at p23
      refine T_skip ?_
      refine X_then ?_
      refine T_seq ?_
      refine T_region ?_
      refine TL_q (Qt_move (.pointer _) rfl) rfl ?_
      refine TL_q (Qt_nilCheck rfl) rfl ?_
      refine TL_q (Qt_fieldAddr 4 rfl rfl) rfl ?_
      refine TL_q (Qt_load1 rfl) rfl ?_
      refine TL_q (Qt_move (.slice _ _ _) rfl) rfl ?_
      refine TL_e rfl (Ef_call (told_c (n := t.nx) (by omega) (b := b) (by omega)) rfl (fun x33 => ?_))
      have htl := toldB_len t.nx (by omega) b.l (by omega)
      refine TL_q (Qt_assign (.slice _ _ _) rfl) rfl ?_
      refine TL_nil ?_
      refine X_then ?_
      refine T_seq ?_
      refine T_seq ?_
      refine T_draw (row (.slice x33.a (toldB t.nx b.l).length x33.c) 5 1 (bytesV (toldB t.nx b.l)) :: lblk lp p pre t :: lrow t :: H) [(0, true), (1, true), (2, true), (3, true), (4, true), (5, true), (6, true), (7, true), (8, true), (9, true), (10, true), (11, true), (12, true), (13, true), (14, true), (15, true), (16, true), (18, true), (17, false), (19, false), (20, true)] (by kernel_rfl) (by kernel_rfl) rfl (by kernel_rfl) (Subs.st inferInstance) (fun hns0 => ?_)
      refine DL_q hns0 rfl (Qt_move (.pointer _) rfl) rfl ?_
      refine DL_q hns0 rfl (Qt_nilCheck rfl) rfl ?_
      refine DL_q hns0 rfl (Qt_fieldAddr 0 rfl rfl) rfl ?_
      refine DL_q hns0 rfl (Qt_load1 rfl) rfl ?_
      refine DL_q hns0 rfl (Qt_move (.pointer _) rfl) rfl ?_
      refine DL_q hns0 rfl (Qt_move (.pointer _) rfl) rfl ?_
      refine DL_q hns0 rfl (Qt_nilCheck rfl) rfl ?_
      refine DL_q hns0 rfl (Qt_fieldAddr 2 rfl rfl) rfl ?_
      refine DL_q hns0 rfl (Qt_load1 rfl) rfl ?_
      refine DL_q hns0 rfl (Qt_move (.pointer _) rfl) rfl ?_
      refine DL_q hns0 rfl (Qt_nilCheck rfl) rfl ?_
      refine DL_q hns0 rfl (Qt_fieldAddr 2 rfl rfl) rfl ?_
      refine DL_q hns0 rfl (Qt_load1 rfl) rfl ?_
      refine DL_q hns0 rfl (Qt_len_slice rfl Tryz.underlying129) rfl ?_
      first
        | refine DL_q hns0 rfl (Qt_sub rfl rfl (by omega) (by omega)) rfl ?_
        | refine DL_q hns0 rfl (Qt_subw rfl rfl) rfl ?_
      refine DL_q hns0 rfl (Qt_indexR rfl rfl (by omega) (by rw [List.length_map]; omega)) rfl ?_
      refine DL_q hns0 rfl (Qt_loadR (.int .i64 ((lastN t.segs : Nat) : Int)) rfl (last_get (by omega))) rfl ?_
      refine DL_q hns0 rfl (Qt_move (.slice _ _ _) rfl) rfl ?_
      refine DL_frontA (lblk lp p pre t) ?_
      refine DL_e rfl rfl (Ef_call (name_c (t := t) hp (i := lastN t.segs) (by omega)) rfl (fun x51 => ⟨(Subs.st inferInstance), ?_⟩))
      refine DL_conv (fun w hw => (Subs.st inferInstance w hw : St w0 (DS.H p s (row (.slice x33.a (toldB t.nx b.l).length x33.c) 5 1 (bytesV (toldB t.nx b.l)) :: lblk lp p pre t :: lrow t :: H)) w)) ?_
      refine DL_e rfl rfl (Ef_call (append_c (s := s) hok hM (by omega) (b := ⟨x33.a, x33.c, (toldB t.nx b.l)⟩) (by show (toldB t.nx b.l).length ≤ 2000000; omega) (by show (toldB t.nx b.l).length ≤ K; omega)) rfl (fun x53 => ⟨(Subs.st inferInstance), ?_⟩))
      refine DL_pure (fun hw53 => ?_)
      refine DL_q hns0 rfl (Qt_assign (.int .i64 _) rfl) rfl ?_
      refine DL_nil ?_
      refine X_then ?_
      refine T_seq ?_
      refine T_region ?_
      refine TL_q (Qt_move (.int .i64 _) rfl) rfl ?_
      refine TL_q (Qt_neq rfl rfl) rfl ?_
      refine TL_nil ?_
      refine X_then ?_
      refine T_cond rfl (fun h55 => ?_) (fun h55 => ?_)
      ·
        have p55 := h55
        try simp only [decide_eq_true_eq, decide_eq_false_iff_not, Bool.not_eq_true', Bool.not_eq_false', Option.isNone_iff_eq_none, ne_eq, Decidable.not_not, Int.not_lt, Int.not_le] at p55
        refine T_seq ?_
        refine T_region ?_
        refine TL_q (Qt_move (.int .i64 _) rfl) rfl ?_
        refine TL_q (Qt_assign (.int .i64 _) rfl) rfl ?_
        refine TL_nil ?_
        refine X_then ?_
        refine T_ret ?_
        refine X_then_ret ?_
        exact X_ret (x53.1, t, x53.2) [_] Tryz.results33 ⟨rfl, trivial⟩ rfl (fun w hw => (Subs.st inferInstance w hw : St w0 (lblk lp p pre t :: lrow t :: DS.H p x53.1 H) w).addPure (.inr ⟨by omega, hw53, fun _ => rfl, fun h => absurd h p55⟩))
      ·
        have p55 := h55
        try simp only [decide_eq_true_eq, decide_eq_false_iff_not, Bool.not_eq_true', Bool.not_eq_false', Option.isNone_iff_eq_none, ne_eq, Decidable.not_not, Int.not_lt, Int.not_le] at p55
        refine T_skip ?_
        refine X_then ?_
        refine T_seq ?_
        refine T_region ?_
        refine TL_q (Qt_move (.pointer _) rfl) rfl ?_
        refine TL_q (Qt_nilCheck rfl) rfl ?_
        refine TL_q (Qt_fieldAddr 3 rfl rfl) rfl ?_
        refine TL_q (Qt_load1 rfl) rfl ?_
        refine TL_q (Qt_move (.slice _ _ _) rfl) rfl ?_
        refine TL_q (Qt_len_slice rfl Tryz.underlying41) rfl ?_
        first
          | refine TL_q (Qt_add rfl rfl (by omega) (by omega)) rfl ?_
          | refine TL_q (Qt_addw rfl rfl) rfl ?_
        rw [show (t.siz : Int) + ((toldB t.nx b.l).length : Int) = ((t.siz + (toldB t.nx b.l).length : Nat) : Int) from rfl]
        refine TL_q (Qt_nilCheck rfl) rfl ?_
        refine TL_q (Qt_fieldAddr 3 rfl rfl) rfl ?_
        refine TL_n (Ef_store1 (.int .i64 _) rfl rfl (?_))
        refine TL_nil ?_
        refine X_then ?_
        refine T_seq ?_
        refine T_region ?_
        refine TL_q (Qt_move (.pointer _) rfl) rfl ?_
        refine TL_q (Qt_nilCheck rfl) rfl ?_
        refine TL_q (Qt_fieldAddr 4 rfl rfl) rfl ?_
        refine TL_q (Qt_load1 rfl) rfl ?_
        refine TL_q (Qt_val (Qt_addw rfl rfl) (congrArg (Value.int .u64) (show IntKind.u64.wrap ((t.nx : Int) + 1) = ((t.nx + 1 : Nat) : Int) from wrap_u64 (by omega) (by omega)))) rfl ?_
        refine TL_q (Qt_nilCheck rfl) rfl ?_
        refine TL_q (Qt_fieldAddr 4 rfl rfl) rfl ?_
        refine TL_n (Ef_store1 (.int .u64 _) rfl rfl (?_))
        refine TL_nil ?_
        refine X_then ?_
        refine T_seq ?_
        refine T_region ?_
        refine TL_q (Qt_assign (.int .i64 _) rfl) rfl ?_
        refine TL_nil ?_
        refine X_then ?_
        refine T_ret ?_
        have h0 : x53.2 = 0 := by omega
        exact X_ret (x53.1, (⟨t.ga, t.gc, t.segs, t.siz + (toldB t.nx b.l).length, t.nx + 1, t.bg⟩ : LS), x53.2) [_] Tryz.results33 ⟨rfl, trivial⟩ (by rw [h0]; rfl) (fun w hw => (Subs.st inferInstance w hw : St w0 (lblk lp p pre (⟨t.ga, t.gc, t.segs, t.siz + (toldB t.nx b.l).length, t.nx + 1, t.bg⟩ : LS) :: lrow (⟨t.ga, t.gc, t.segs, t.siz + (toldB t.nx b.l).length, t.nx + 1, t.bg⟩ : LS) :: DS.H p x53.1 H) w).addPure (.inr ⟨by omega, hw53, fun h => absurd h0 h, fun _ => ⟨rfl, rfl, rfl, rfl⟩⟩))
set_option maxHeartbeats 1000000 in
theorem lsync_c {w0 : World} {H : List SA} {lp p : Nat} {pre : ByteArray} {t : LS} {s : DS} {M K : Nat} (hok : s.Ok M K) (hM : M ≤ 1000000) (hK : K ≤ 1000000000) :
    CT Tryz.prog w0 (lblk lp p pre t :: lrow t :: DS.H p s H) 75 [.pointer (some ⟨lp, 0, none⟩)] (α := DS) (fun _ => .tuple #[]) (fun y => pu (SyncR s y) :: lblk lp p pre t :: lrow t :: DS.H p y H) := by
  refine CT_intro Tryz.func75 rfl Tryz.ntmps75 rfl ?_
  refine T_seq ?_
  refine T_region ?_
  refine TL_q (Qt_move (.pointer _) rfl) rfl ?_
  refine TL_q (Qt_ptr_not_nil rfl rfl Tryz.underlying78) rfl ?_
  refine TL_nil ?_
  refine X_then ?_
  refine T_cond_true rfl (by first | rfl | decide) ?_
  refine T_region ?_
  refine TL_q (Qt_move (.pointer _) rfl) rfl ?_
  refine TL_q (Qt_nilCheck rfl) rfl ?_
  refine TL_q (Qt_fieldAddr 0 rfl rfl) rfl ?_
  refine TL_q (Qt_load1 rfl) rfl ?_
  refine TL_conv (fun w hw => (Subs.st inferInstance w hw : St w0 (DS.H p s (lblk lp p pre t :: lrow t :: H)) w)) ?_
  refine TL_e rfl (Ef_call (sync_c (s := s) hok hM (by omega)) rfl (fun x8 => ?_))
  refine TL_pure (fun h8 => ?_)
  refine TL_nil ?_
  exact X_ret x8 [] Tryz.results75 trivial rfl (fun w hw => (Subs.st inferInstance w hw : St w0 (lblk lp p pre t :: lrow t :: DS.H p x8 H) w).addPure h8)
set_option maxHeartbeats 1000000 in
theorem fine_c {w0 : World} {H : List SA} {s : ByteArray} (hs : s.size ≤ maxLen) :
    CT Tryz.prog w0 (H) 60 [.string s] (α := Unit) (fun _ => .bool (fineB s)) (fun _ => H) := by
  refine CT_intro Tryz.func60 rfl Tryz.ntmps60 rfl ?_
  refine T_seq ?_
  refine T_region ?_
  refine TL_q (Qt_assign (.bool _) rfl) rfl ?_
  refine TL_nil ?_
  refine X_then ?_
  refine T_seq ?_
  refine T_region ?_
  refine TL_q (Qt_move (.string _) rfl) rfl ?_
  refine TL_q (Qt_len_string rfl Tryz.underlying9) rfl ?_
  refine TL_q (Qt_geq rfl rfl) rfl ?_
  refine TL_q (Qt_move (.bool _) rfl) rfl ?_
  refine TL_split 6 rfl (fun h6 => ?_) (fun h6 => ?_)
  ·
    have p6 := h6
    try simp only [decide_eq_true_eq, decide_eq_false_iff_not, Bool.not_eq_true', Bool.not_eq_false', Option.isNone_iff_eq_none, ne_eq, Decidable.not_not, Int.not_lt, Int.not_le] at p6
    refine TL_take rfl rfl h6 ?_
    refine TL_q (Qt_move (.string _) rfl) rfl ?_
    refine TL_take rfl rfl h6 ?_
    refine TL_q (Qt_len_string rfl Tryz.underlying9) rfl ?_
    refine TL_take rfl rfl h6 ?_
    refine TL_q (Qt_leq rfl rfl) rfl ?_
    refine TL_q (Qt_pick_t (.bool _) rfl h6 rfl) rfl ?_
    refine TL_q (Qt_move (.bool _) rfl) rfl ?_
    refine TL_split 11 rfl (fun h11 => ?_) (fun h11 => ?_)
    ·
      have p11 := h11
      try simp only [decide_eq_true_eq, decide_eq_false_iff_not, Bool.not_eq_true', Bool.not_eq_false', Option.isNone_iff_eq_none, ne_eq, Decidable.not_not, Int.not_lt, Int.not_le] at p11
      refine TL_take rfl rfl h11 ?_
      refine TL_q (Qt_move (.string _) rfl) rfl ?_
      refine TL_take rfl rfl h11 ?_
      refine TL_e rfl (Ef_call (idx_c (s := s)) rfl (fun x13 => ?_))
      refine TL_take rfl rfl h11 ?_
      refine TL_q (Qt_lss rfl rfl) rfl ?_
      refine TL_q (Qt_pick_t (.bool _) rfl h11 rfl) rfl ?_
      refine TL_q (Qt_assign (.bool _) rfl) rfl ?_
      refine TL_nil ?_
      refine X_then ?_
      refine T_ret ?_
      exact X_ret () [_] Tryz.results60 ⟨rfl, trivial⟩ (congrArg Value.bool (by first | exact (fineB_t (by omega) (by omega)).symm | exact (fineB_f (by omega)).symm)) (Subs.st inferInstance)
    ·
      have p11 := h11
      try simp only [decide_eq_true_eq, decide_eq_false_iff_not, Bool.not_eq_true', Bool.not_eq_false', Option.isNone_iff_eq_none, ne_eq, Decidable.not_not, Int.not_lt, Int.not_le] at p11
      refine TL_pass rfl rfl h11 rfl ?_
      refine TL_pass rfl rfl h11 rfl ?_
      refine TL_pass rfl rfl h11 rfl ?_
      refine TL_q (Qt_pick_f (.bool _) rfl h11 rfl) rfl ?_
      refine TL_q (Qt_assign (.bool _) rfl) rfl ?_
      refine TL_nil ?_
      refine X_then ?_
      refine T_ret ?_
      exact X_ret () [_] Tryz.results60 ⟨rfl, trivial⟩ (congrArg Value.bool (by first | exact (fineB_t (by omega) (by omega)).symm | exact (fineB_f (by omega)).symm)) (Subs.st inferInstance)
  ·
    have p6 := h6
    try simp only [decide_eq_true_eq, decide_eq_false_iff_not, Bool.not_eq_true', Bool.not_eq_false', Option.isNone_iff_eq_none, ne_eq, Decidable.not_not, Int.not_lt, Int.not_le] at p6
    refine TL_pass rfl rfl h6 rfl ?_
    refine TL_pass rfl rfl h6 rfl ?_
    refine TL_pass rfl rfl h6 rfl ?_
    refine TL_q (Qt_pick_f (.bool _) rfl h6 rfl) rfl ?_
    refine TL_q (Qt_move (.bool _) rfl) rfl ?_
    refine TL_pass rfl rfl rfl rfl ?_
    refine TL_pass rfl rfl rfl rfl ?_
    refine TL_pass rfl rfl rfl rfl ?_
    refine TL_q (Qt_pick_f (.bool _) rfl rfl rfl) rfl ?_
    refine TL_q (Qt_assign (.bool _) rfl) rfl ?_
    refine TL_nil ?_
    refine X_then ?_
    refine T_ret ?_
    exact X_ret () [_] Tryz.results60 ⟨rfl, trivial⟩ (congrArg Value.bool (by first | exact (fineB_t (by omega) (by omega)).symm | exact (fineB_f (by omega)).symm)) (Subs.st inferInstance)
theorem ngl_of {es : FM} (h : es = []) : (namesE es).length = 0 := by rw [namesE_len, h]; rfl
set_option maxHeartbeats 1000000 in
theorem openE_c {w0 : World} {H : List SA} {p : Nat} {s : DS} {M K : Nat} (hok : s.Ok M K) (hM : M ≤ 1000000) (he : s.e2 = []) {pre : ByteArray} (hs : pre.size ≤ maxLen) (hf : fineB pre = true) :
    CT Tryz.prog w0 (DS.H p s H) 28 [.pointer (some ⟨p, 0, none⟩), .string pre] (α := Nat) (fun y => .tuple #[.pointer (some ⟨y, 0, none⟩), .slice none 0 0, .int .i64 0]) (fun y => lblk y p pre (⟨none, 0, [], 0, 1, false⟩ : LS) :: lrow (⟨none, 0, [], 0, 1, false⟩ : LS) :: DS.H p s H) := by
  refine CT_intro Tryz.func28 rfl Tryz.ntmps28 rfl ?_
  refine T_seq ?_
  refine T_region ?_
  refine TL_q (Qt_assign (.pointer _) rfl) rfl ?_
  refine TL_q (Qt_assign (.slice _ _ _) rfl) rfl ?_
  refine TL_q (Qt_assign (.int .i64 _) rfl) rfl ?_
  refine TL_nil ?_
  refine X_then ?_
  refine T_seq ?_
  refine T_block ?_
  refine T_seq ?_
  refine T_region ?_
  refine TL_q (Qt_move (.pointer _) rfl) rfl ?_
  refine TL_q (Qt_ptr_nil rfl rfl Tryz.underlying28) rfl ?_
  refine TL_q (Qt_assign (.bool _) rfl) rfl ?_
  refine TL_nil ?_
  refine X_then ?_
  refine T_cond_false rfl (by first | rfl | decide) ?_
  refine T_seq ?_
  refine T_region ?_
  refine TL_q (Qt_move (.string _) rfl) rfl ?_
  refine TL_e rfl (Ef_call (fine_c hs) rfl (fun x24 => ?_))
  rw [hf]
  refine TL_q (Qt_not rfl) rfl ?_
  refine TL_q (Qt_assign (.bool _) rfl) rfl ?_
  refine TL_nil ?_
  refine X_then ?_
  refine T_cond_false rfl (by first | rfl | decide) ?_
  refine T_skip ?_
  refine X_block ?_
  refine X_then ?_
  refine T_seq ?_
  refine T_region ?_
  refine TL_q (Qt_move (.pointer _) rfl) rfl ?_
  refine TL_q (Qt_move (.string _) rfl) rfl ?_
  refine TL_q (Qt_build [(0, (.pointer _)), (1, (.string _)), (4, (.int .u64 _))] rfl (by kernel_rfl)) rfl ?_
  refine TL_e rfl (Ef_boxN rfl (fun b29 => ?_))
  refine TL_q (Qt_assign (.pointer _) rfl) rfl ?_
  refine TL_nil ?_
  refine X_then ?_
  refine T_seq ?_
  refine T_seq ?_
  refine T_region ?_
  refine TL_q (Qt_move (.pointer _) rfl) rfl ?_
  refine TL_conv (fun w hw => (Subs.st inferInstance w hw : St w0 (DS.H p s (lblk b29 p pre (⟨none, 0, [], 0, 1, false⟩ : LS) :: H)) w)) ?_
  refine TL_e rfl (Ef_call (dnames_c (s := s) hok hM (by rw [he]; intro e h; cases h)) rfl (fun x31 => ?_))
  rw [ngl_of he]
  refine TL_q (Qt_len_slice rfl Tryz.underlying132) rfl ?_
  refine TL_q (Qt_move (.int .i64 _) rfl) rfl ?_
  refine TL_nil ?_
  refine X_then ?_
  refine T_block ?_
  refine T_unroll (TU_round ?_)
  refine T_seq ?_
  refine T_region ?_
  refine TL_q (Qt_lss rfl rfl) rfl ?_
  refine TL_nil ?_
  refine X_then ?_
  refine T_seq ?_
  refine T_cond_false rfl (by first | rfl | decide) ?_
  refine T_exit ?_
  refine X_then_exit ?_
  refine X_again_exit ?_
  refine X_block_exit ?_
  refine X_then ?_
  refine T_seq ?_
  refine T_region ?_
  refine TL_q (Qt_move (.pointer _) rfl) rfl ?_
  refine TL_q (Qt_nilCheck rfl) rfl ?_
  refine TL_q (Qt_fieldAddr 2 rfl rfl) rfl ?_
  refine TL_q (Qt_load1 rfl) rfl ?_
  refine TL_e rfl (Ef_call (sort0_c) rfl (fun x57 => ?_))
  refine TL_nil ?_
  refine X_then ?_
  refine T_seq ?_
  refine T_region ?_
  refine TL_q (Qt_assign (.slice _ _ _) rfl) rfl ?_
  refine TL_nil ?_
  refine X_then ?_
  refine T_seq ?_
  refine T_seq ?_
  refine T_region ?_
  refine TL_q (Qt_move (.pointer _) rfl) rfl ?_
  refine TL_q (Qt_nilCheck rfl) rfl ?_
  refine TL_q (Qt_fieldAddr 2 rfl rfl) rfl ?_
  refine TL_q (Qt_load1 rfl) rfl ?_
  refine TL_q (Qt_len_slice rfl Tryz.underlying129) rfl ?_
  refine TL_q (Qt_move (.int .i64 _) rfl) rfl ?_
  refine TL_nil ?_
  refine X_then ?_
  refine T_block ?_
  refine T_unroll (TU_round ?_)
  refine T_seq ?_
  refine T_region ?_
  refine TL_q (Qt_lss rfl rfl) rfl ?_
  refine TL_nil ?_
  refine X_then ?_
  refine T_seq ?_
  refine T_cond_false rfl (by first | rfl | decide) ?_
  refine T_exit ?_
  refine X_then_exit ?_
  refine X_again_exit ?_
  refine X_block_exit ?_
  refine X_then ?_
  refine T_seq ?_
  refine T_region ?_
  refine TL_q (Qt_move (.pointer _) rfl) rfl ?_
  refine TL_q (Qt_move (.slice _ _ _) rfl) rfl ?_
  refine TL_q (Qt_assign (.pointer _) rfl) rfl ?_
  refine TL_q (Qt_assign (.slice _ _ _) rfl) rfl ?_
  refine TL_q (Qt_assign (.int .i64 _) rfl) rfl ?_
  refine TL_nil ?_
  refine X_then ?_
  refine T_ret ?_
  exact X_ret b29 [_, _, _] Tryz.results28 ⟨rfl, rfl, rfl, trivial⟩ rfl (fun w hw => by
    have h1 := St.toO ((Subs.st inferInstance w hw : St w0 (lblk b29 p pre (⟨none, 0, [], 0, 1, false⟩ : LS) :: DS.H p s H) w).addNil 3 1)
    exact (Subs.st (H := rowO (.slice none 0 0) 3 [] :: lblk b29 p pre (⟨none, 0, [], 0, 1, false⟩ : LS) :: DS.H p s H) inferInstance w h1 : St w0 (lblk b29 p pre (⟨none, 0, [], 0, 1, false⟩ : LS) :: rowO (.slice none 0 0) 3 [] :: DS.H p s H) w))
end
section
open Go.RowKit Go.Sx
set_option maxRecDepth 100000
set_option linter.unusedSimpArgs false
set_option linter.unusedVariables false
set_option maxHeartbeats 1000000 in
theorem at_c {w0 : World} {H : List SA} {p k : Nat} {b : BS} :
    CT Tryz.prog w0 (blk p (.cells (ReaderV.mk b (k : Int)).cells 167 (0, 0)) :: H) 163 [.pointer (some ⟨p, 0, none⟩)] (α := Unit) (fun _ => .int .i64 (k : Int)) (fun _ => blk p (.cells (ReaderV.mk b (k : Int)).cells 167 (0, 0)) :: H) := by
  refine CT_intro Tryz.func163 rfl Tryz.ntmps163 rfl ?_
  refine T_seq ?_
  refine T_region ?_
  refine TL_q (Qt_assign (.int .i64 _) rfl) rfl ?_
  refine TL_nil ?_
  refine X_then ?_
  refine T_seq ?_
  refine T_seq ?_
  refine T_region ?_
  refine TL_q (Qt_move (.pointer _) rfl) rfl ?_
  refine TL_q (Qt_ptr_nil rfl rfl Tryz.underlying120) rfl ?_
  refine TL_nil ?_
  refine X_then ?_
  refine T_cond_false rfl (by first | rfl | decide) ?_
  refine T_skip ?_
  refine X_then ?_
  refine T_seq ?_
  refine T_region ?_
  refine TL_q (Qt_move (.pointer _) rfl) rfl ?_
  refine TL_q (Qt_nilCheck rfl) rfl ?_
  refine TL_q (Qt_fieldAddr 1 rfl rfl) rfl ?_
  refine TL_q (Qt_load1 rfl) rfl ?_
  refine TL_q (Qt_assign (.int .i64 _) rfl) rfl ?_
  refine TL_nil ?_
  refine X_then ?_
  refine T_ret ?_
  exact X_ret () [_] Tryz.results163 ⟨rfl, trivial⟩ rfl (Subs.st inferInstance)
set_option maxHeartbeats 1000000 in
theorem equal_c {w0 : World} {H : List SA} {a a2 : Option Addr} {l m : List UInt8} {c c2 : Nat} [hr : RdB w0 H (.slice a l.length c) l] [hr2 : RdB w0 H (.slice a2 m.length c2) m] (hl : l.length ≤ 4294967296) :
    CT Tryz.prog w0 (H) 55 [.slice a l.length c, .slice a2 m.length c2] (α := Unit) (fun _ => .bool (decide (l = m))) (fun _ => H) := by
  refine CT_intro Tryz.func55 rfl Tryz.ntmps55 rfl ?_
  refine T_seq ?_
  refine T_region ?_
  refine TL_q (Qt_assign (.bool _) rfl) rfl ?_
  refine TL_nil ?_
  refine X_then ?_
  refine T_seq ?_
  refine T_seq ?_
  refine T_region ?_
  refine TL_q (Qt_move (.slice _ _ _) rfl) rfl ?_
  refine TL_q (Qt_len_slice rfl Tryz.underlying41) rfl ?_
  refine TL_q (Qt_move (.slice _ _ _) rfl) rfl ?_
  refine TL_q (Qt_len_slice rfl Tryz.underlying41) rfl ?_
  refine TL_q (Qt_neq rfl rfl) rfl ?_
  refine TL_nil ?_
  refine X_then ?_
  refine T_cond rfl (fun h10 => ?_) (fun h10 => ?_)
  ·
    have p10 := h10
    try simp only [decide_eq_true_eq, decide_eq_false_iff_not, Bool.not_eq_true', Bool.not_eq_false', Option.isNone_iff_eq_none, ne_eq, Decidable.not_not, Int.not_lt, Int.not_le] at p10
    refine T_seq ?_
    refine T_region ?_
    refine TL_q (Qt_assign (.bool _) rfl) rfl ?_
    refine TL_nil ?_
    refine X_then ?_
    refine T_ret ?_
    refine X_then_ret ?_
    exact X_ret () [_] Tryz.results55 ⟨rfl, trivial⟩ (congrArg Value.bool (by rw [decide_eq_false (by intro h; subst h; exact p10 rfl)])) (Subs.st inferInstance)
  ·
    have p10 := h10
    try simp only [decide_eq_true_eq, decide_eq_false_iff_not, Bool.not_eq_true', Bool.not_eq_false', Option.isNone_iff_eq_none, ne_eq, Decidable.not_not, Int.not_lt, Int.not_le] at p10
    have hlm : l.length = m.length := by omega
    refine T_skip ?_
    refine X_then ?_
    refine T_seq ?_
    refine T_seq ?_
    refine T_region ?_
    refine TL_q (Qt_move (.slice _ _ _) rfl) rfl ?_
    refine TL_q (Qt_len_slice rfl Tryz.underlying41) rfl ?_
    refine TL_q (Qt_move (.int .i64 _) rfl) rfl ?_
    refine TL_nil ?_
    refine X_then ?_
    refine T_block ?_
    refine T_loop [4, 5, 13, 14, 15, 16, 17, 18, 19, 20, 21, 22, 23, 24, 25] [13] (fun us H' => ∃ (k : Nat), us = [.int .i64 (k : Int)] ∧ H = H' ∧ k ≤ l.length ∧ (l.take k = m.take k)) (fun us => match us with | .int _ i :: _ => l.length - i.toNat | _ => 0) ⟨0, rfl, rfl, by omega, by simp⟩ (Subs.st inferInstance) ?_
    rintro τ0 _ _  ⟨k, rfl, rfl, hk0, hq⟩ _
    refine T_seq ?_
    refine T_region ?_
    refine TL_q (Qt_lss rfl rfl) rfl ?_
    refine TL_nil ?_
    refine X_then ?_
    refine T_seq ?_
    refine T_cond rfl (fun h14 => ?_) (fun h14 => ?_)
    ·
      have p14 := h14
      try simp only [decide_eq_true_eq, decide_eq_false_iff_not, Bool.not_eq_true', Bool.not_eq_false', Option.isNone_iff_eq_none, ne_eq, Decidable.not_not, Int.not_lt, Int.not_le] at p14
      have hk : k < l.length := by omega
      have hkm : k < m.length := by omega
      refine T_skip ?_
      refine X_then ?_
      refine T_seq ?_
      refine T_block ?_
      refine T_seq ?_
      refine T_region ?_
      refine TL_q (Qt_move (.int .i64 _) rfl) rfl ?_
      refine TL_q (Qt_assign (.int .i64 _) rfl) rfl ?_
      refine TL_nil ?_
      refine X_then ?_
      refine T_seq ?_
      refine T_draw _ [(0, true), (1, true), (2, true), (3, true), (4, true), (5, true), (6, true), (7, true), (8, true)] (by kernel_rfl) (by kernel_rfl) rfl (by kernel_rfl) (fun _ hh => hh) (fun hns0 => ?_)
      refine DL_q hns0 rfl (Qt_move (.slice _ _ _) rfl) rfl ?_
      refine DL_q hns0 rfl (Qt_move (.int .i64 _) rfl) rfl ?_
      refine DL_q hns0 rfl (Qt_indexR rfl rfl (by omega) (by simp; omega)) rfl ?_
      refine DL_q hns0 rfl (Qt_loadR (.int .u8 (l[k].toNat : Int)) rfl (bytes_get _ _ hk)) rfl ?_
      refine DL_q hns0 rfl (Qt_move (.slice _ _ _) rfl) rfl ?_
      refine DL_q hns0 rfl (Qt_move (.int .i64 _) rfl) rfl ?_
      refine DL_q hns0 rfl (Qt_indexR rfl rfl (by omega) (by simp; omega)) rfl ?_
      refine DL_q hns0 rfl (Qt_loadR (.int .u8 ((m[k]'hkm).toNat : Int)) rfl (bytes_get _ _ hkm)) rfl ?_
      refine DL_q hns0 rfl (Qt_neq rfl rfl) rfl ?_
      refine DL_nil ?_
      refine X_then ?_
      refine T_cond rfl (fun h24 => ?_) (fun h24 => ?_)
      ·
        have p24 := h24
        try simp only [decide_eq_true_eq, decide_eq_false_iff_not, Bool.not_eq_true', Bool.not_eq_false', Option.isNone_iff_eq_none, ne_eq, Decidable.not_not, Int.not_lt, Int.not_le] at p24
        refine T_seq ?_
        refine T_region ?_
        refine TL_q (Qt_assign (.bool _) rfl) rfl ?_
        refine TL_nil ?_
        refine X_then ?_
        refine T_ret ?_
        refine X_block_ret ?_
        refine X_then_ret ?_
        refine X_loop_ret ?_
        refine X_block_ret ?_
        refine X_then_ret ?_
        exact X_ret () [_] Tryz.results55 ⟨rfl, trivial⟩ (congrArg Value.bool (by rw [decide_eq_false (by intro h; subst h; exact p24 rfl)])) (Subs.st inferInstance)
      ·
        have p24 := h24
        try simp only [decide_eq_true_eq, decide_eq_false_iff_not, Bool.not_eq_true', Bool.not_eq_false', Option.isNone_iff_eq_none, ne_eq, Decidable.not_not, Int.not_lt, Int.not_le] at p24
        have he : l[k] = m[k]'hkm := UInt8.toNat_inj.1 (by omega)
        have hq2 : l.take (k + 1) = m.take (k + 1) := by rw [List.take_add_one, List.take_add_one, hq, List.getElem?_eq_getElem hk, List.getElem?_eq_getElem hkm, he]
        refine T_skip ?_
        refine X_block ?_
        refine X_then ?_
        refine T_region ?_
        first
          | refine TL_q (Qt_add rfl rfl (by omega) (by omega)) rfl ?_
          | refine TL_q (Qt_addw rfl rfl) rfl ?_
        refine TL_q (Qt_move (.int .i64 _) rfl) rfl ?_
        refine TL_nil ?_
        apply X_loop
        case ha => exact (by repeat (first | with_reducible exact agree_refl | refine agree_upd rfl ?_ | refine agree_mix rfl ?_ | refine agree_setAll rfl ?_))
        case hI => exact ⟨k + 1, rfl, rfl, by omega, hq2⟩
        case hm => exact by show l.length - (k + 1 : Int).toNat < l.length - (k : Int).toNat; omega
        case hH => exact (Subs.st inferInstance)
    ·
      have p14 := h14
      try simp only [decide_eq_true_eq, decide_eq_false_iff_not, Bool.not_eq_true', Bool.not_eq_false', Option.isNone_iff_eq_none, ne_eq, Decidable.not_not, Int.not_lt, Int.not_le] at p14
      have hkn : k = l.length := by omega
      refine T_exit ?_
      refine X_then_exit ?_
      refine X_loop_exit ?_
      refine X_block_exit ?_
      refine X_then ?_
      refine T_seq ?_
      refine T_region ?_
      refine TL_q (Qt_assign (.bool _) rfl) rfl ?_
      refine TL_nil ?_
      refine X_then ?_
      refine T_ret ?_
      have hlm2 : l = m := by rw [hkn, List.take_length, hlm, List.take_length] at hq; exact hq
      exact X_ret () [_] Tryz.results55 ⟨rfl, trivial⟩ (congrArg Value.bool (by rw [decide_eq_true hlm2])) (Subs.st inferInstance)
attribute [local irreducible] sha
def headB (n : Nat) (r : List UInt8) : List UInt8 := packed n ++ packed r.length ++ r
theorem toldB_eq (n : Nat) (r : List UInt8) : toldB n r = headB n r ++ (sha (headB n r)).toList.take 8 := rfl
theorem toldB_n (n : Nat) (r : List UInt8) : (toldB n r).length = (headB n r).length + 8 := by
  rw [toldB_eq, List.length_append, List.length_take, Vector.length_toList]; rfl
theorem head_len (n : Nat) (r : List UInt8) : (headB n r).length = 0 + (packed n).length + (packed r.length ++ r).length := by
  unfold headB; simp only [List.length_append]; omega
theorem read_p {n : Nat} (hn : n < 18446744073709551616) {r rest l : List UInt8} (h : l = toldB n r ++ rest) : rdPacked (l.drop 0) = (0, n, (packed n).length) := by
  rw [List.drop_zero, h, toldB_eq, headB]
  simp only [List.append_assoc]
  exact rdPacked_packed n _ hn
theorem read_t {n : Nat} {r rest l : List UInt8} (hr : r.length ≤ 65536) (h : l = toldB n r ++ rest) : rdText (l.drop (0 + (packed n).length)) 65536 = (0, r, (packed r.length ++ r).length) := by
  have e : l.drop (0 + (packed n).length) = packed r.length ++ r ++ ((sha (headB n r)).toList.take 8 ++ rest) := by
    have e2 : headB n r ++ (sha (headB n r)).toList.take 8 ++ rest = packed n ++ (packed r.length ++ r ++ ((sha (headB n r)).toList.take 8 ++ rest)) := by
      conv => lhs; rw [show headB n r = packed n ++ packed r.length ++ r from rfl]
      simp only [List.append_assoc]
      rw [show headB n r = packed n ++ (packed r.length ++ r) from by unfold headB; rw [List.append_assoc]]
    rw [Nat.zero_add, h, toldB_eq, e2, List.drop_left]
  rw [e]
  exact rdText_text r 65536 _ (by omega) (by omega)
theorem read_h {n : Nat} {r rest l : List UInt8} (h : l = toldB n r ++ rest) : l.take (headB n r).length = headB n r := by
  rw [h, toldB_eq, List.append_assoc, List.take_left]
theorem read_c8 {n : Nat} {r rest l : List UInt8} (h : l = toldB n r ++ rest) : (l.drop (headB n r).length).take 8 = (sha (headB n r)).toList.take 8 := by
  rw [h, toldB_eq, List.append_assoc, List.drop_left]
  have : ((sha (headB n r)).toList.take 8).length = 8 := by simp
  rw [List.take_append, this, List.take_of_length_le (by rw [this]; exact Nat.le_refl _)]
  simp
attribute [local irreducible] headB toldB
end
section
open Go.RowKit Go.Sx
set_option maxRecDepth 100000
set_option linter.unusedSimpArgs false
set_option linter.unusedVariables false
theorem St.datEach {w0 w : World} {H : List SA} {fp : List Nat} {ls : List BS} (h : St w0 (eachA fp ls :: H) w) : St w0 (dat fp ⟨ls, [], []⟩ :: H) w :=
 h.turn rfl fun hp => ⟨fun y hy => hp y hy, fun _ h => (by cases h), fun _ h => (by cases h), fun _ h => (by cases h)⟩
attribute [local irreducible] recsB toldB
end
section
open Go.RowKit Go.Sx
set_option maxRecDepth 100000
set_option linter.unusedSimpArgs false
set_option linter.unusedVariables false
attribute [local irreducible] sha
/-- What read makes of bytes: a record's number, its text, how many bytes it takes; or nothing. -/
def readE (l : List UInt8) : Option (Nat × List UInt8 × Nat) :=
 if (rdPacked l).1 ≠ 0 then none
 else if (rdText (l.drop (rdPacked l).2.2) 65536).1 ≠ 0 then none
 else if l.length < (rdPacked l).2.2 + (rdText (l.drop (rdPacked l).2.2) 65536).2.2 + 8 then none
 else if (sha (l.take ((rdPacked l).2.2 + (rdText (l.drop (rdPacked l).2.2) 65536).2.2))).toList.take 8 ≠ (l.drop ((rdPacked l).2.2 + (rdText (l.drop (rdPacked l).2.2) 65536).2.2)).take 8 then none
 else some ((rdPacked l).2.1, (rdText (l.drop (rdPacked l).2.2) 65536).2.1, (rdPacked l).2.2 + (rdText (l.drop (rdPacked l).2.2) 65536).2.2 + 8)
theorem pk_mono (l rest : List UInt8) : ∀ f i x, (pk l f i x).1 = 0 → pk (l ++ rest) f i x = pk l f i x
 | 0, _, _, h => by cases h
 | f + 1, i, x, h => by
  unfold pk at h ⊢
  cases hl : l[i]? with
  | none => rw [hl] at h; cases h
  | some c =>
   have hi : i < l.length := by
    rcases Nat.lt_or_ge i l.length with h1 | h1
    · exact h1
    · rw [List.getElem?_eq_none h1] at hl; cases hl
   have e : (l ++ rest)[i]? = some c := by rw [List.getElem?_append_left hi]; exact hl
   rw [hl] at h
   simp only [e]
   simp only at h
   split
   · rfl
   · rename_i h1
     rw [if_neg h1] at h
     split
     · rfl
     · rename_i h2
       rw [if_neg h2] at h
       exact pk_mono l rest f (i + 1) _ h
theorem rdPacked_mono {l : List UInt8} (rest : List UInt8) (h : (rdPacked l).1 = 0) : rdPacked (l ++ rest) = rdPacked l := pk_mono l rest 10 0 0 h
theorem rdCount_fine {l : List UInt8} {m : Int} (h : (rdCount l m).1 = 0) : (rdPacked l).1 = 0 ∧ rdCount l m = rdPacked l := by
 unfold rdCount at h ⊢
 split at h
 · rename_i h1; exact absurd h h1
 · rename_i h1
   split at h
   · cases h
   · rename_i h2
     rw [if_neg h1, if_neg h2]
     exact ⟨Decidable.not_not.1 h1, rfl⟩
theorem rdCount_mono {l : List UInt8} {m : Int} (rest : List UInt8) (h : (rdCount l m).1 = 0) : rdCount (l ++ rest) m = rdCount l m := by
 have h1 := (rdCount_fine h).1
 unfold rdCount
 rw [rdPacked_mono rest h1]
theorem rdText_fine {l : List UInt8} {m : Int} (h : (rdText l m).1 = 0) : (rdCount l m).1 = 0 ∧ (rdCount l m).2.2 + (rdCount l m).2.1 ≤ l.length ∧ rdText l m = (0, (l.drop (rdCount l m).2.2).take (rdCount l m).2.1, (rdCount l m).2.2 + (rdCount l m).2.1) := by
 unfold rdText at h ⊢
 split at h
 · rename_i h1; exact absurd h h1
 · rename_i h1
   split at h
   · cases h
   · rename_i h2
     rw [if_neg h1, if_neg h2]
     exact ⟨Decidable.not_not.1 h1, by omega, rfl⟩
theorem rdText_mono {l : List UInt8} {m : Int} (rest : List UInt8) (h : (rdText l m).1 = 0) : rdText (l ++ rest) m = rdText l m := by
 obtain ⟨h1, h2, h3⟩ := rdText_fine h
 rw [h3]
 unfold rdText
 rw [rdCount_mono rest h1, if_neg (by omega), if_neg (by rw [List.length_append]; omega), List.drop_append_of_le_length (by omega), List.take_append_of_le_length (by rw [List.length_drop]; omega)]
/-- A whole record is read, whatever is behind it. -/
theorem readE_told {n : Nat} (hn : n < 18446744073709551616) {r rest l : List UInt8} (hr : r.length ≤ 65536) (h : l = toldB n r ++ rest) : readE l = some (n, r, (toldB n r).length) := by
 have h1 := read_p hn h
 rw [List.drop_zero] at h1
 have h2 := read_t hr h
 rw [Nat.zero_add] at h2
 have h3 := read_h h
 have h4 := read_c8 h
 have h5 := head_len n r
 have h6 := toldB_n n r
 have hl : l.length = (toldB n r).length + rest.length := by rw [h, List.length_append]
 have e : (packed n).length + (packed r.length ++ r).length = (headB n r).length := by omega
 unfold readE
 simp only [h1, h2, e]
 rw [if_neg (by decide), if_neg (by decide), if_neg (by omega), h3, h4, if_neg (fun hx => hx rfl), h6]
/-- Of a record's strict beginning nothing is read. -/
theorem readE_torn {n : Nat} (hn : n < 18446744073709551616) {r : List UInt8} (hr : r.length ≤ 65536) {m : Nat} (hm : m < (toldB n r).length) : readE ((toldB n r).take m) = none := by
 have hsp : (toldB n r).take m ++ (toldB n r).drop m = toldB n r := List.take_append_drop m _
 have hlen : ((toldB n r).take m).length = m := by rw [List.length_take]; omega
 generalize (toldB n r).take m = p at hsp hlen ⊢
 generalize (toldB n r).drop m = q at hsp
 have hw : p ++ q = toldB n r ++ [] := by rw [hsp, List.append_nil]
 have h1 := read_p hn hw
 rw [List.drop_zero] at h1
 have h2 := read_t hr hw
 rw [Nat.zero_add] at h2
 have h5 := head_len n r
 have h6 := toldB_n n r
 unfold readE
 by_cases c1 : (rdPacked p).1 ≠ 0
 · rw [if_pos c1]
 · rw [if_neg c1]
   have c1 : (rdPacked p).1 = 0 := Decidable.not_not.1 c1
   have e1 := rdPacked_mono q c1
   rw [h1] at e1
   rw [← e1]
   by_cases c2 : (rdText (p.drop (packed n).length) 65536).1 ≠ 0
   · rw [if_pos c2]
   · rw [if_neg c2]
     have c2 : (rdText (p.drop (packed n).length) 65536).1 = 0 := Decidable.not_not.1 c2
     have hk : (packed n).length ≤ p.length := by
      have := (rdPacked_bound p).2.1
      rw [← e1] at this
      exact this
     have e2 := rdText_mono q c2
     rw [← List.drop_append_of_le_length hk, h2] at e2
     rw [← e2]
     show (if p.length < (packed n).length + (packed r.length ++ r).length + 8 then none else _) = none
     rw [if_pos (by omega)]
/-- What a scan makes of bytes: the records, how many bytes they take, the number of the next. -/
def scanE : Nat → List UInt8 → Bool → Nat → List (List UInt8) × Nat × Bool × Nat
 | 0, _, bg, nx => ([], 0, bg, nx)
 | f + 1, l, bg, nx => match readE l with
  | none => ([], 0, bg, nx)
  | some (n, r, k) => if (bg = true ∧ n ≠ nx) ∨ n = 0 ∨ n = 18446744073709551615 then ([], 0, bg, nx)
   else (r :: (scanE f (l.drop k) true (n + 1)).1, k + (scanE f (l.drop k) true (n + 1)).2.1, (scanE f (l.drop k) true (n + 1)).2.2)
attribute [local irreducible] readE toldB headB
/-- Whole records and a strict beginning of one more: the records are told, and nothing of what is behind them. -/
theorem scanE_torn : ∀ (rs : List (List UInt8)) (f n : Nat) (bg : Bool) (nx : Nat) (t : List UInt8), rs.length < f → 1 ≤ n → n + rs.length < 18446744073709551615 → (∀ r ∈ rs, r.length ≤ 65536) → (bg = true → nx = n) → readE t = none →
 scanE f (recsB n rs ++ t) bg nx = (rs, (recsB n rs).length, if rs.length = 0 then bg else true, if rs.length = 0 then nx else n + rs.length)
 | [], f + 1, n, bg, nx, t, _, _, _, _, _, ht => by
  unfold scanE
  rw [show recsB n [] ++ t = t from rfl, ht]; rfl
 | [], 0, _, _, _, _, h, _, _, _, _, _ => by cases h
 | r :: rs, 0, _, _, _, _, h, _, _, _, _, _ => by cases h
 | r :: rs, f + 1, n, bg, nx, t, hf, hn, hn2, hr, hb, ht => by
  have hl : (r :: rs).length = rs.length + 1 := rfl
  have hr1 := hr r (List.mem_cons_self ..)
  have h1 : readE (recsB n (r :: rs) ++ t) = some (n, r, (toldB n r).length) := readE_told (by omega) hr1 (rest := recsB (n + 1) rs ++ t) (by show (toldB n r ++ recsB (n + 1) rs) ++ t = _; rw [List.append_assoc])
  have h2 : (recsB n (r :: rs) ++ t).drop (toldB n r).length = recsB (n + 1) rs ++ t := by show ((toldB n r ++ recsB (n + 1) rs) ++ t).drop _ = _; rw [List.append_assoc, List.drop_left]
  have ih := scanE_torn rs f (n + 1) true (n + 1) t (by omega) (by omega) (by omega) (fun x hx => hr x (List.mem_cons_of_mem _ hx)) (fun _ => rfl) ht
  unfold scanE
  rw [h1]
  simp only
  rw [if_neg (by rintro (⟨h, h'⟩ | h | h); exact h' (hb h).symm; omega; omega), h2, ih]
  rw [if_neg (show ¬ (r :: rs).length = 0 by simp), if_neg (show ¬ (r :: rs).length = 0 by simp)]
  refine Prod.ext rfl (Prod.ext ?_ (Prod.ext ?_ ?_))
  · show _ = (toldB n r ++ recsB (n + 1) rs).length
    rw [List.length_append]
  · show (if rs.length = 0 then true else true) = true
    split <;> rfl
  · show (if rs.length = 0 then n + 1 else n + 1 + rs.length) = n + (rs.length + 1)
    split <;> omega
end
section
open Go.RowKit Go.Sx
set_option maxRecDepth 100000
set_option linter.unusedSimpArgs false
set_option linter.unusedVariables false
structure RdR where
 a : Option Addr
 c : Nat
 n : Nat
 r : List UInt8
 k : Nat
 ok : Bool
def RdOK (l : List UInt8) (y : RdR) : Prop := (y.ok = true → readE l = some (y.n, y.r, y.k)) ∧ (y.ok = false → readE l = none)
theorem RdOK.no {l : List UInt8} {a : Option Addr} {c : Nat} (h : readE l = none) : RdOK l ⟨a, c, 0, [], 0, false⟩ := ⟨fun h => (by cases h), fun _ => h⟩
theorem readE_no1 {l : List UInt8} (h : (rdPacked l).1 ≠ 0) : readE l = none := by unfold readE; rw [if_pos h]
theorem readE_no2 {l : List UInt8} (h : (rdText (l.drop (rdPacked l).2.2) 65536).1 ≠ 0) : readE l = none := by
 unfold readE
 repeat' split
 all_goals first | rfl | contradiction
theorem readE_no3 {l : List UInt8} (h : l.length < (rdPacked l).2.2 + (rdText (l.drop (rdPacked l).2.2) 65536).2.2 + 8) : readE l = none := by
 unfold readE
 repeat' split
 all_goals first | rfl | contradiction
theorem readE_no4 {l : List UInt8} (h : (sha (l.take ((rdPacked l).2.2 + (rdText (l.drop (rdPacked l).2.2) 65536).2.2))).toList.take 8 ≠ (l.drop ((rdPacked l).2.2 + (rdText (l.drop (rdPacked l).2.2) 65536).2.2)).take 8) : readE l = none := by
 unfold readE
 repeat' split
 all_goals first | rfl | contradiction
theorem readE_yes {l : List UInt8} (h1 : (rdPacked l).1 = 0) (h2 : (rdText (l.drop (rdPacked l).2.2) 65536).1 = 0) (h3 : ¬ l.length < (rdPacked l).2.2 + (rdText (l.drop (rdPacked l).2.2) 65536).2.2 + 8) (h4 : (sha (l.take ((rdPacked l).2.2 + (rdText (l.drop (rdPacked l).2.2) 65536).2.2))).toList.take 8 = (l.drop ((rdPacked l).2.2 + (rdText (l.drop (rdPacked l).2.2) 65536).2.2)).take 8) :
 readE l = some ((rdPacked l).2.1, (rdText (l.drop (rdPacked l).2.2) 65536).2.1, (rdPacked l).2.2 + (rdText (l.drop (rdPacked l).2.2) 65536).2.2 + 8) := by
 unfold readE
 rw [if_neg (fun h => h h1), if_neg (fun h => h h2), if_neg h3, if_neg (fun h => h h4)]
attribute [local irreducible] sha readE rdPacked rdText
set_option maxHeartbeats 1000000 in
theorem readX_c {w0 : World} {H : List SA} {a : Option Addr} {l : List UInt8} {c : Nat} [hr : RdB w0 H (.slice a l.length c) l] (hl : l.length ≤ 4294960000) :
 CT Tryz.prog w0 (H) 109 [.slice a l.length c] (α := RdR) (fun y => .tuple #[.int .u64 (y.n : Int), .slice y.a y.r.length y.c, .int .i64 (y.k : Int), .bool y.ok]) (fun y => pu (RdOK l y) :: row (.slice y.a y.r.length y.c) 5 1 (bytesV y.r) :: H) := by
 refine CT_intro Tryz.func109 rfl Tryz.ntmps109 rfl ?_
 refine T2 (zq (za (.int .u64 _) rfl) rfl (Qas rfl rfl (Qai rfl rfl (Qab rfl rfl (T4 ?_)))))
 refine Qms rfl rfl ?_
 refine ze rfl (zc (rnew_c (by omega)) rfl (fun x10 => ?_))
 refine TL_pure (fun h10 => ?_)
 refine zq (za (.pointer _) rfl) rfl (T4 (zq (zm (.pointer _) rfl) rfl (TL_frontB x10.1 ?_)))
 refine ze rfl (zc (packed_c (b := x10.2) (k := 0) (by omega) (by rw [h10]; omega)) rfl (fun x13 => ?_))
 rw [show rdPacked (x10.2.l.drop 0) = rdPacked l from by rw [h10]; rfl]
 obtain ⟨P, hP⟩ : ∃ P, P = rdPacked l := ⟨_, rfl⟩
 rw [← hP]
 have hpb := rdPacked_bound l
 rw [← hP] at hpb
 refine zq (zm (.tuple _) rfl) rfl (zq (Qt_extract rfl) rfl (zq (Qt_extract rfl) rfl (zq (za (.int .u64 _) rfl) rfl (Qai rfl rfl (TX (zS (T2 ?_)))))))
 refine Qmi rfl rfl (zq (Qt_neq rfl rfl) rfl (TX (zC rfl (fun h17 => ?_) (fun h17 => ?_))))
 ·
  have p17 := h17
  try simp only [dp] at p17
  refine T2 (zq (za (.int .u64 _) rfl) rfl (Qas rfl rfl (Qai rfl rfl (Qab rfl rfl (TX (zQ (zr ?_)))))))
  exact zX (⟨none, 0, 0, [], 0, false⟩ : RdR) [_, _, _, _] Tryz.results109 ⟨rfl, rfl, rfl, rfl, trivial⟩ rfl (fun w hw => ((SB w hw : St w0 H w).addNilB 5).addPure (RdOK.no (readE_no1 (by rw [← hP]; simpa using h17))))
 have p17 := h17
 try simp only [dp] at p17
 refine S4 (zq (zm (.pointer _) rfl) rfl (TL_frontB x10.1 ?_))
 refine ze rfl (zc (text_c (b := x10.2) (k := 0 + P.2.2) (by rw [h10]; omega) (by rw [h10]; omega) (m := 65536) (by decide)) rfl (fun x20 => ?_))
 rw [show x10.2.l.drop (0 + P.2.2) = l.drop P.2.2 from by rw [h10, Nat.zero_add]]
 obtain ⟨X, hX⟩ : ∃ X, X = rdText (l.drop P.2.2) 65536 := ⟨_, rfl⟩
 rw [← hX]
 have htb := rdText_bound (l.drop P.2.2) 65536
 rw [← hX, List.length_drop] at htb
 refine zq (zm (.tuple _) rfl) rfl (zq (Qt_extract rfl) rfl (zq (Qt_extract rfl) rfl (Qas rfl rfl (Qai rfl rfl (TX (zS (T2 ?_)))))))
 refine Qmi rfl rfl (zq (Qt_neq rfl rfl) rfl (Qmb rfl rfl ?_))
 refine TL_split 25 rfl (fun h25 => ?_) (fun h25 => ?_)
 ·
  have p25 := h25
  try simp only [dp] at p25
  refine zp rfl rfl h25 rfl (TL_frontB x10.1 (zp rfl rfl h25 rfl (zp rfl rfl h25 rfl (zq (zT (.bool _) rfl h25 rfl) rfl (TX ?_)))))
  refine T_cond_true rfl rfl (T2 (zq (za (.int .u64 _) rfl) rfl (Qas rfl rfl (Qai rfl rfl (Qab rfl rfl ?_)))))
  refine TX (zQ (zr ?_))
  exact zX (⟨none, 0, 0, [], 0, false⟩ : RdR) [_, _, _, _] Tryz.results109 ⟨rfl, rfl, rfl, rfl, trivial⟩ rfl (fun w hw => ((SB w hw : St w0 H w).addNilB 5).addPure (RdOK.no (readE_no2 (by rw [← hP, ← hX]; simpa using h25))))
 have p25 := h25
 try simp only [dp] at p25
 refine zt rfl rfl h25 (zq (zm (.pointer _) rfl) rfl (TL_frontB x10.1 (zt rfl rfl h25 ?_)))
 refine ze rfl (zc (left_c (b := x10.2) (k := (0 + P.2.2 + X.2.2)) (by rw [h10]; omega) (by rw [h10]; omega)) rfl (fun x27 => ?_))
 refine zt rfl rfl h25 (zq (Qt_lss rfl rfl) rfl (zq (zF (.bool _) rfl h25 rfl) rfl (TX (zC rfl (fun h29 => ?_) (fun h29 => ?_)))))
 ·
  have p29 := h29
  try simp only [dp] at p29
  refine T2 (zq (za (.int .u64 _) rfl) rfl (Qas rfl rfl (Qai rfl rfl (Qab rfl rfl (TX (zQ (zr ?_)))))))
  exact zX (⟨none, 0, 0, [], 0, false⟩ : RdR) [_, _, _, _] Tryz.results109 ⟨rfl, rfl, rfl, rfl, trivial⟩ rfl (fun w hw => ((SB w hw : St w0 H w).addNilB 5).addPure (RdOK.no (readE_no3 (by rw [← hP, ← hX]; rw [h10] at p29; omega))))
 have p29 := h29
 try simp only [dp] at p29
 have hlt : ¬ l.length < P.2.2 + X.2.2 + 8 := by rw [h10] at p29; omega
 refine S4 (Qms rfl rfl (zq (zm (.pointer _) rfl) rfl (TL_frontB x10.1 ?_)))
 refine ze rfl (zc (at_c (b := x10.2) (k := (0 + P.2.2 + X.2.2))) rfl (fun x32 => ?_))
 refine zq (Qt_sliceB_h (0 + P.2.2 + X.2.2) rfl rfl (by omega)) rfl ?_
 refine ze rfl (zc (sum_c (l := (l.take (0 + P.2.2 + X.2.2))) (by rw [List.length_take]; omega)) rfl (fun x34 => ?_))
 refine ze rfl (Ef_allocN (fun b8 => ?_))
 refine zN (zs rfl rfl (?_))
 refine TX (zS (zS ?_))
 refine T_draw (blk b8 (.cells (hlist (sha (l.take (0 + P.2.2 + X.2.2)))).toArray 40 (0, 0)) :: H) [(0, true), (1, true), (2, true), (4, true), (3, false), (5, false), (6, true), (7, true), (8, false), (9, true)] (by kernel_rfl) (by kernel_rfl) rfl (by kernel_rfl) SB (fun hns0 => ?_)
 refine zd hns0 rfl (Qt_val (Qt_slice_arrH (m := 8) rfl rfl Tryz.underlying40 rfl rfl (by decide)) (show Value.slice (some ⟨b8, 0, none⟩) 8 32 = .slice (some ⟨b8, 0, none⟩) ((sha (l.take (0 + P.2.2 + X.2.2))).toList.take 8).length 32 from by simp)) rfl (zd hns0 rfl (zm (.slice _ _ _) rfl) rfl (zd hns0 rfl (zm (.pointer _) rfl) rfl (zd hns0 rfl (zm (.pointer _) rfl) rfl ?_)))
 refine DL_frontB x10.1 ?_
 refine DL_e rfl rfl (zc (at_c (b := x10.2) (k := (0 + P.2.2 + X.2.2))) rfl (fun x38 => ⟨SB, ?_⟩))
 refine DL_frontB x10.1 ?_
 refine DL_e rfl rfl (zc (at_c (b := x10.2) (k := (0 + P.2.2 + X.2.2))) rfl (fun x40 => ⟨SB, ?_⟩))
 refine zd hns0 rfl (Qt_add rfl rfl (by omega) (by omega)) rfl (zd hns0 rfl (Qt_sliceB_lh (0 + P.2.2 + X.2.2) 8 rfl rfl rfl (by omega)) rfl ?_)
 refine DL_e rfl rfl (zc (equal_c (l := (sha (l.take (0 + P.2.2 + X.2.2))).toList.take 8) (m := (l.drop (0 + P.2.2 + X.2.2)).take 8) (hr := RdB.hashPre (sha (l.take (0 + P.2.2 + X.2.2))) inferInstance (by decide) (by decide)) (by simp)) rfl (fun x43 => ⟨SB, ?_⟩))
 refine zd hns0 rfl (Qt_not rfl) rfl (DL_nil (zx (zC rfl (fun h44 => ?_) (fun h44 => ?_))))
 ·
  have p44 := h44
  try simp only [dp] at p44
  refine T2 (zq (za (.int .u64 _) rfl) rfl (Qas rfl rfl (Qai rfl rfl (Qab rfl rfl (TX (zQ (zr ?_)))))))
  exact zX (⟨none, 0, 0, [], 0, false⟩ : RdR) [_, _, _, _] Tryz.results109 ⟨rfl, rfl, rfl, rfl, trivial⟩ rfl (fun w hw => ((SB w hw : St w0 H w).addNilB 5).addPure (RdOK.no (readE_no4 (by rw [← hP, ← hX, ← Nat.zero_add P.2.2]; simpa using h44))))
 have p44 := h44
 try simp only [dp] at p44
 refine S4 (zq (zm (.int .u64 _) rfl) rfl (Qms rfl rfl (zq (zm (.pointer _) rfl) rfl (TL_frontB x10.1 ?_))))
 refine ze rfl (zc (at_c (b := x10.2) (k := (0 + P.2.2 + X.2.2))) rfl (fun x48 => ?_))
 refine zq (Qt_add rfl rfl (by omega) (by omega)) rfl (zq (za (.int .u64 _) rfl) rfl (Qas rfl rfl (Qai rfl rfl (Qab rfl rfl (TX (zQ ?_))))))
 exact zX (⟨x20.a, x20.c, P.2.1, X.2.1, P.2.2 + X.2.2 + 8, true⟩ : RdR) [_, _, _, _] Tryz.results109 ⟨rfl, rfl, rfl, rfl, trivial⟩ (by first | rfl | (rw [Nat.zero_add]; rfl)) (fun w hw => (SB w hw : St w0 (row (.slice x20.a X.2.1.length x20.c) 5 1 (bytesV X.2.1) :: H) w).addPure ⟨fun _ => by subst hP; subst hX; exact readE_yes (by simpa using h17) (by simpa using h25) hlt (by rw [← Nat.zero_add (rdPacked l).2.2]; simpa using h44), fun h => (by cases h)⟩)
end
section
open Go.RowKit Go.Sx
set_option maxRecDepth 100000
set_option linter.unusedSimpArgs false
set_option linter.unusedVariables false
theorem recs_many (n : Nat) (rs : List (List UInt8)) (hn : n + rs.length < 18446744073709551616) (hr : ∀ r ∈ rs, r.length ≤ 4294967000) : rs.length ≤ (recsB n rs).length := by
  induction rs generalizing n with
  | nil => exact Nat.zero_le _
  | cons r rs ih =>
    have h1 := ih (n + 1) (by simp at hn; omega) (fun x hx => hr x (List.mem_cons_of_mem _ hx))
    have h2 := (toldB_len n (by simp at hn; omega) r (hr r (List.mem_cons_self ..))).2
    simp only [recsB, List.length_append, List.length_cons]
    omega
attribute [local irreducible] sha rdPacked rdText
theorem readE_some {l r : List UInt8} {n k : Nat} (h : readE l = some (n, r, k)) : 8 ≤ k ∧ k ≤ l.length ∧ n < 18446744073709551616 ∧ r.length ≤ l.length := by
  unfold readE at h
  have hb := rdPacked_bound l
  have ht := rdText_bound (l.drop (rdPacked l).2.2) 65536
  rw [List.length_drop] at ht
  split at h
  · cases h
  · split at h
    · cases h
    · split at h
      · cases h
      · split at h
        · cases h
        · rename_i h3 _
          injection h with h
          injection h with e1 e2
          injection e2 with e2 e3
          rw [← e1, ← e2, ← e3]
          omega
/-- The next record that a log takes. -/
def stepE (l : List UInt8) (bg : Bool) (nx : Nat) : Option (Nat × List UInt8 × Nat) := match readE l with
  | none => none
  | some (n, r, k) => if (bg = true ∧ n ≠ nx) ∨ n = 0 ∨ n = 18446744073709551615 then none else some (n, r, k)
theorem stepE_read {l r : List UInt8} {bg : Bool} {nx n k : Nat} (h : stepE l bg nx = some (n, r, k)) : readE l = some (n, r, k) ∧ ¬ ((bg = true ∧ n ≠ nx) ∨ n = 0 ∨ n = 18446744073709551615) := by
  unfold stepE at h
  split at h
  · cases h
  · rename_i n' r' k' hr
    split at h
    · cases h
    · rename_i hc
      injection h with h
      injection h with e1 e2
      injection e2 with e2 e3
      subst e1 e2 e3
      exact ⟨hr, hc⟩
theorem stepE_no {l : List UInt8} {bg : Bool} {nx : Nat} (h : readE l = none) : stepE l bg nx = none := by unfold stepE; rw [h]
theorem stepE_bad {l r : List UInt8} {bg : Bool} {nx n k : Nat} (h : readE l = some (n, r, k)) (hc : (bg = true ∧ n ≠ nx) ∨ n = 0 ∨ n = 18446744073709551615) : stepE l bg nx = none := by unfold stepE; rw [h]; exact if_pos hc
theorem stepE_yes {l r : List UInt8} {bg : Bool} {nx n k : Nat} (h : readE l = some (n, r, k)) (hc : ¬ ((bg = true ∧ n ≠ nx) ∨ n = 0 ∨ n = 18446744073709551615)) : stepE l bg nx = some (n, r, k) := by unfold stepE; rw [h]; exact if_neg hc
theorem scanE_stop {l : List UInt8} {bg : Bool} {nx : Nat} (h : stepE l bg nx = none) : ∀ f, scanE f l bg nx = ([], 0, bg, nx)
  | 0 => rfl
  | f + 1 => by
    unfold scanE
    unfold stepE at h
    split
    · rfl
    · rename_i n r k hr
      rw [hr] at h
      simp only at h
      split at h
      · rename_i hc; rw [if_pos hc]
      · cases h
theorem scanE_step {l r : List UInt8} {bg : Bool} {nx n k : Nat} (h : stepE l bg nx = some (n, r, k)) (f : Nat) :
    scanE (f + 1) l bg nx = (r :: (scanE f (l.drop k) true (n + 1)).1, k + (scanE f (l.drop k) true (n + 1)).2.1, (scanE f (l.drop k) true (n + 1)).2.2) := by
  obtain ⟨h1, h2⟩ := stepE_read h
  conv => lhs; unfold scanE
  rw [h1]
  simp only
  rw [if_neg h2]
theorem scanE_fuel : ∀ (f g : Nat) (l : List UInt8) (bg : Bool) (nx : Nat), l.length < f → l.length < g → scanE f l bg nx = scanE g l bg nx
  | 0, _, _, _, _, h, _ => by omega
  | _, 0, _, _, _, _, h => by omega
  | f + 1, g + 1, l, bg, nx, hf, hg => by
    cases h : stepE l bg nx with
    | none => rw [scanE_stop h, scanE_stop h]
    | some x =>
      obtain ⟨n, r, k⟩ := x
      have hk := readE_some (stepE_read h).1
      rw [scanE_step h, scanE_step h, scanE_fuel f g (l.drop k) true (n + 1) (by rw [List.length_drop]; omega) (by rw [List.length_drop]; omega)]
/-- What a scan of a segment tells: the records, how many bytes they take, whether any was met, the next one's number. -/
def scanF (l : List UInt8) (bg : Bool) (nx : Nat) : List (List UInt8) × Nat × Bool × Nat := scanE (l.length + 1) l bg nx
theorem scanF_stop {l : List UInt8} {bg : Bool} {nx : Nat} (h : stepE l bg nx = none) : scanF l bg nx = ([], 0, bg, nx) := scanE_stop h _
theorem scanF_step {l r : List UInt8} {bg : Bool} {nx n k : Nat} (h : stepE l bg nx = some (n, r, k)) :
    scanF l bg nx = (r :: (scanF (l.drop k) true (n + 1)).1, k + (scanF (l.drop k) true (n + 1)).2.1, (scanF (l.drop k) true (n + 1)).2.2) := by
  have hk := readE_some (stepE_read h).1
  unfold scanF
  rw [scanE_step h, scanE_fuel l.length ((l.drop k).length + 1) (l.drop k) true (n + 1) (by rw [List.length_drop]; omega) (by omega)]
theorem readE_nil : readE [] = none := by
  cases h : readE [] with
  | none => rfl
  | some x =>
    obtain ⟨n, r, k⟩ := x
    have := readE_some h
    simp at this
    omega
theorem scanE_bound : ∀ (f : Nat) (l : List UInt8) (bg : Bool) (nx : Nat), l.length < f → nx < 18446744073709551616 → (scanE f l bg nx).2.1 ≤ l.length ∧ (scanE f l bg nx).2.2.2 < 18446744073709551616 ∧ (scanE f l bg nx).1.length ≤ l.length ∧ ∀ r ∈ (scanE f l bg nx).1, r.length ≤ l.length
  | 0, _, _, _, h, _ => by omega
  | f + 1, l, bg, nx, hf, hn => by
    cases h : stepE l bg nx with
    | none => rw [scanE_stop h]; exact ⟨Nat.zero_le _, hn, Nat.zero_le _, fun _ h => by cases h⟩
    | some x =>
      obtain ⟨n, r, k⟩ := x
      obtain ⟨hr, hc⟩ := stepE_read h
      have hk := readE_some hr
      have hd : (l.drop k).length = l.length - k := List.length_drop ..
      obtain ⟨i1, i2, i3, i4⟩ := scanE_bound f (l.drop k) true (n + 1) (by omega) (by
        have : n ≠ 18446744073709551615 := fun e => hc (.inr (.inr e))
        omega)
      rw [scanE_step h]
      refine ⟨by show k + _ ≤ _; omega, i2, by show (_ :: _).length ≤ _; rw [List.length_cons]; omega, fun x hx => ?_⟩
      rcases List.mem_cons.1 hx with rfl | hx
      · exact hk.2.2.2
      · have := i4 x hx; omega
theorem scanF_bound (l : List UInt8) (bg : Bool) {nx : Nat} (hn : nx < 18446744073709551616) : (scanF l bg nx).2.1 ≤ l.length ∧ (scanF l bg nx).2.2.2 < 18446744073709551616 ∧ (scanF l bg nx).1.length ≤ l.length ∧ ∀ r ∈ (scanF l bg nx).1, r.length ≤ l.length :=
  scanE_bound _ l bg nx (Nat.lt_succ_self _) hn
/-- Whole records, and behind them what is none. -/
theorem scanF_torn (rs : List (List UInt8)) (n : Nat) (bg : Bool) (nx : Nat) (t : List UInt8) (hn : 1 ≤ n) (h2 : n + rs.length < 18446744073709551615) (hr : ∀ r ∈ rs, r.length ≤ 65536) (hb : bg = true → nx = n) (ht : readE t = none) :
    scanF (recsB n rs ++ t) bg nx = (rs, (recsB n rs).length, if rs.length = 0 then bg else true, if rs.length = 0 then nx else n + rs.length) := by
  have hl : rs.length ≤ (recsB n rs).length := recs_many n rs (by omega) (fun r h => by have := hr r h; omega)
  unfold scanF
  exact scanE_torn rs _ n bg nx t (by rw [List.length_append]; omega) hn h2 hr hb ht

structure Sc1 where
  ok : Bool
  at_ : Nat
  a : Option Addr
  c : Nat
  out : List BS
  fo : List Nat
  nx : Nat
  bg : Bool
def Sc1R (l : List UInt8) (at_ : Nat) (t : LS) (out : List BS) (y : Sc1) : Prop :=
  (y.ok = false ∧ stepE (l.drop at_) t.bg t.nx = none ∧ y.at_ = at_ ∧ y.out = out ∧ y.nx = t.nx ∧ y.bg = t.bg) ∨
  (y.ok = true ∧ ∃ (n k : Nat) (b : BS), stepE (l.drop at_) t.bg t.nx = some (n, b.l, k) ∧ y.at_ = at_ + k ∧ y.out = out ++ [b] ∧ y.nx = n + 1 ∧ y.bg = true)
theorem scan_next {l : List UInt8} {at_ n k : Nat} {out : List BS} {bb : BS} {bg bg0 : Bool} {nx nx0 : Nat} (hs : scanF l bg0 nx0 = (out.map BS.l ++ (scanF (l.drop at_) bg nx).1, at_ + (scanF (l.drop at_) bg nx).2.1, (scanF (l.drop at_) bg nx).2.2)) (hst : stepE (l.drop at_) bg nx = some (n, bb.l, k)) :
    scanF l bg0 nx0 = ((out ++ [bb]).map BS.l ++ (scanF (l.drop (at_ + k)) true (n + 1)).1, at_ + k + (scanF (l.drop (at_ + k)) true (n + 1)).2.1, (scanF (l.drop (at_ + k)) true (n + 1)).2.2) := by
  rw [hs, scanF_step hst, List.drop_drop]
  simp [Nat.add_assoc]
theorem scan_last {l : List UInt8} {at_ : Nat} {out : List BS} {bg bg0 : Bool} {nx nx0 : Nat} (hs : scanF l bg0 nx0 = (out.map BS.l ++ (scanF (l.drop at_) bg nx).1, at_ + (scanF (l.drop at_) bg nx).2.1, (scanF (l.drop at_) bg nx).2.2)) (hst : stepE (l.drop at_) bg nx = none) :
    scanF l bg0 nx0 = (out.map BS.l, at_, bg, nx) := by
  rw [hs, scanF_stop hst]
  simp
theorem scan_first (l : List UInt8) (bg : Bool) (nx : Nat) : scanF l bg nx = (([] : List BS).map BS.l ++ (scanF (l.drop 0) bg nx).1, 0 + (scanF (l.drop 0) bg nx).2.1, (scanF (l.drop 0) bg nx).2.2) := by
  rw [List.drop_zero, Nat.zero_add]; rfl
structure ScR where
  a : Option Addr
  c : Nat
  out : List BS
  fo : List Nat
  at_ : Nat
  nx : Nat
  bg : Bool
attribute [local irreducible] scanF stepE readE recsB toldB
set_option maxHeartbeats 1000000 in
theorem scan1X_c {w0 : World} {H : List SA} {q0 q1 q2 q3 lp p : Nat} {pre : ByteArray} {t : LS} {bv : BS} [rb : RdB w0 H (.slice bv.a bv.l.length bv.c) bv.l] {at_ : Nat} {oa : Option Addr} {oc : Nat} {out : List BS} {fo : List Nat} (hl : bv.l.length ≤ 4000000000) (hat : at_ ≤ bv.l.length) (hol : out.length ≤ 4000000000) :
    CT Tryz.prog w0 (blk q0 (.cells #[.slice bv.a bv.l.length bv.c] 41 (0, 0)) :: blk q1 (.cells #[.int .i64 (at_ : Int)] 3 (0, 0)) :: blk q2 (.cells #[.pointer (some ⟨lp, 0, none⟩)] 78 (0, 0)) :: blk q3 (.cells #[.slice oa (out).length oc] 42 (0, 0)) :: row (.slice oa (out).length oc) 41 1 ((out).map BS.val) :: eachA fo out :: lblk lp p pre t :: H) 108 [.pointer (some ⟨q0, 0, none⟩), .pointer (some ⟨q1, 0, none⟩), .pointer (some ⟨q2, 0, none⟩), .pointer (some ⟨q3, 0, none⟩)] (α := Sc1) (fun y => .bool y.ok) (fun y => pu (Sc1R bv.l at_ t out y) :: blk q0 (.cells #[.slice bv.a bv.l.length bv.c] 41 (0, 0)) :: blk q1 (.cells #[.int .i64 ((y.at_ : Nat) : Int)] 3 (0, 0)) :: blk q2 (.cells #[.pointer (some ⟨lp, 0, none⟩)] 78 (0, 0)) :: blk q3 (.cells #[.slice y.a (y.out).length y.c] 42 (0, 0)) :: row (.slice y.a (y.out).length y.c) 41 1 ((y.out).map BS.val) :: eachA y.fo (y.out) :: lblk lp p pre (⟨t.ga, t.gc, t.segs, t.siz, y.nx, y.bg⟩ : LS) :: H) := by
  refine CT_intro Tryz.func108 rfl Tryz.ntmps108 rfl ?_
  refine T_seq ?_
  refine T_region ?_
  refine TL_q (Qt_assign (.bool _) rfl) rfl ?_
  refine TL_nil ?_
  refine X_then ?_
  refine T_seq ?_
  refine T_region ?_
  refine TL_q (Qt_load1 rfl) rfl ?_
  refine TL_q (Qt_load1 rfl) rfl ?_
  refine TL_q (Qt_sliceB_l at_ rfl rfl (by omega)) rfl ?_
  refine TL_e rfl (Ef_call (readX_c (l := bv.l.drop at_) (by rw [List.length_drop]; omega)) rfl (fun x13 => ?_))
  refine TL_pure (fun h13 => ?_)
  refine TL_q (Qt_move (.tuple _) rfl) rfl ?_
  refine TL_q (Qt_extract rfl) rfl ?_
  refine TL_q (Qt_extract rfl) rfl ?_
  refine TL_q (Qt_extract rfl) rfl ?_
  refine TL_q (Qt_extract rfl) rfl ?_
  refine TL_q (Qt_assign (.int .u64 _) rfl) rfl ?_
  refine TL_q (Qt_assign (.slice _ _ _) rfl) rfl ?_
  refine TL_q (Qt_assign (.int .i64 _) rfl) rfl ?_
  refine TL_q (Qt_assign (.bool _) rfl) rfl ?_
  refine TL_nil ?_
  refine X_then ?_
  refine T_seq ?_
  refine T_seq ?_
  refine T_region ?_
  refine TL_q (Qt_move (.bool _) rfl) rfl ?_
  refine TL_q (Qt_not rfl) rfl ?_
  refine TL_q (Qt_move (.bool _) rfl) rfl ?_
  refine TL_split 20 rfl (fun h20 => ?_) (fun h20 => ?_)
  ·
    have p20 := h20
    try simp only [decide_eq_true_eq, decide_eq_false_iff_not, Bool.not_eq_true', Bool.not_eq_false', Option.isNone_iff_eq_none, ne_eq, Decidable.not_not, Int.not_lt, Int.not_le] at p20
    refine TL_pass rfl rfl h20 rfl ?_
    refine TL_pass rfl rfl h20 rfl ?_
    refine TL_pass rfl rfl h20 rfl ?_
    refine TL_pass rfl rfl h20 rfl ?_
    refine TL_pass rfl rfl h20 rfl ?_
    refine TL_passU rfl rfl rfl ?_
    refine TL_passU rfl rfl rfl ?_
    refine TL_passU rfl rfl rfl ?_
    refine TL_passU rfl rfl rfl ?_
    refine TL_passU rfl rfl rfl ?_
    refine TL_passU rfl rfl rfl ?_
    refine TL_pass rfl rfl h20 rfl ?_
    refine TL_q (Qt_pick_t (.bool _) rfl h20 rfl) rfl ?_
    refine TL_q (Qt_move (.bool _) rfl) rfl ?_
    refine TL_pass rfl rfl rfl rfl ?_
    refine TL_pass rfl rfl rfl rfl ?_
    refine TL_q (Qt_pick_t (.bool _) rfl rfl rfl) rfl ?_
    refine TL_q (Qt_move (.bool _) rfl) rfl ?_
    refine TL_pass rfl rfl rfl rfl ?_
    refine TL_pass rfl rfl rfl rfl ?_
    refine TL_q (Qt_pick_t (.bool _) rfl rfl rfl) rfl ?_
    refine TL_nil ?_
    refine X_then ?_
    refine T_cond_true rfl rfl ?_
    refine T_seq ?_
    refine T_region ?_
    refine TL_q (Qt_assign (.bool _) rfl) rfl ?_
    refine TL_nil ?_
    refine X_then ?_
    refine T_ret ?_
    refine X_then_ret ?_
    first
    | exact X_ret (⟨false, at_, oa, oc, out, fo, t.nx, t.bg⟩ : Sc1) [_] Tryz.results108 ⟨rfl, trivial⟩ rfl (fun w hw => (Subs.st inferInstance w hw : St w0 (blk q0 (.cells #[.slice bv.a bv.l.length bv.c] 41 (0, 0)) :: blk q1 (.cells #[.int .i64 (at_ : Int)] 3 (0, 0)) :: blk q2 (.cells #[.pointer (some ⟨lp, 0, none⟩)] 78 (0, 0)) :: blk q3 (.cells #[.slice oa (out).length oc] 42 (0, 0)) :: row (.slice oa (out).length oc) 41 1 ((out).map BS.val) :: eachA fo out :: lblk lp p pre t :: H) w).addPure (.inl ⟨rfl, stepE_no (h13.2 (by simpa using h20)), rfl, rfl, rfl, rfl⟩))
    | exact X_ret (⟨false, at_, oa, oc, out, fo, t.nx, t.bg⟩ : Sc1) [_] Tryz.results108 ⟨rfl, trivial⟩ rfl (fun w hw => (Subs.st inferInstance w hw : St w0 (blk q0 (.cells #[.slice bv.a bv.l.length bv.c] 41 (0, 0)) :: blk q1 (.cells #[.int .i64 (at_ : Int)] 3 (0, 0)) :: blk q2 (.cells #[.pointer (some ⟨lp, 0, none⟩)] 78 (0, 0)) :: blk q3 (.cells #[.slice oa (out).length oc] 42 (0, 0)) :: row (.slice oa (out).length oc) 41 1 ((out).map BS.val) :: eachA fo out :: lblk lp p pre t :: H) w).addPure (.inl ⟨rfl, stepE_bad (h13.1 (by simpa using h20)) (.inl ⟨h25, by omega⟩), rfl, rfl, rfl, rfl⟩))
    | exact X_ret (⟨false, at_, oa, oc, out, fo, t.nx, t.bg⟩ : Sc1) [_] Tryz.results108 ⟨rfl, trivial⟩ rfl (fun w hw => (Subs.st inferInstance w hw : St w0 (blk q0 (.cells #[.slice bv.a bv.l.length bv.c] 41 (0, 0)) :: blk q1 (.cells #[.int .i64 (at_ : Int)] 3 (0, 0)) :: blk q2 (.cells #[.pointer (some ⟨lp, 0, none⟩)] 78 (0, 0)) :: blk q3 (.cells #[.slice oa (out).length oc] 42 (0, 0)) :: row (.slice oa (out).length oc) 41 1 ((out).map BS.val) :: eachA fo out :: lblk lp p pre t :: H) w).addPure (.inl ⟨rfl, stepE_bad (h13.1 (by simpa using h20)) (.inr (.inl (by omega))), rfl, rfl, rfl, rfl⟩))
    | exact X_ret (⟨false, at_, oa, oc, out, fo, t.nx, t.bg⟩ : Sc1) [_] Tryz.results108 ⟨rfl, trivial⟩ rfl (fun w hw => (Subs.st inferInstance w hw : St w0 (blk q0 (.cells #[.slice bv.a bv.l.length bv.c] 41 (0, 0)) :: blk q1 (.cells #[.int .i64 (at_ : Int)] 3 (0, 0)) :: blk q2 (.cells #[.pointer (some ⟨lp, 0, none⟩)] 78 (0, 0)) :: blk q3 (.cells #[.slice oa (out).length oc] 42 (0, 0)) :: row (.slice oa (out).length oc) 41 1 ((out).map BS.val) :: eachA fo out :: lblk lp p pre t :: H) w).addPure (.inl ⟨rfl, stepE_bad (h13.1 (by simpa using h20)) (.inr (.inr (by omega))), rfl, rfl, rfl, rfl⟩))
  ·
    have p20 := h20
    try simp only [decide_eq_true_eq, decide_eq_false_iff_not, Bool.not_eq_true', Bool.not_eq_false', Option.isNone_iff_eq_none, ne_eq, Decidable.not_not, Int.not_lt, Int.not_le] at p20
    refine TL_take rfl rfl h20 ?_
    refine TL_q (Qt_load1 rfl) rfl ?_
    refine TL_take rfl rfl h20 ?_
    refine TL_q (Qt_nilCheck rfl) rfl ?_
    refine TL_take rfl rfl h20 ?_
    refine TL_q (Qt_fieldAddr 5 rfl rfl) rfl ?_
    refine TL_take rfl rfl h20 ?_
    refine TL_q (Qt_load1 rfl) rfl ?_
    refine TL_take rfl rfl h20 ?_
    refine TL_q (Qt_move (.bool _) rfl) rfl ?_
    refine TL_split 25 rfl (fun h25 => ?_) (fun h25 => ?_)
    ·
      have p25 := h25
      try simp only [decide_eq_true_eq, decide_eq_false_iff_not, Bool.not_eq_true', Bool.not_eq_false', Option.isNone_iff_eq_none, ne_eq, Decidable.not_not, Int.not_lt, Int.not_le] at p25
      refine TL_take rfl rfl h25 ?_
      refine TL_q (Qt_move (.int .u64 _) rfl) rfl ?_
      refine TL_take rfl rfl h25 ?_
      refine TL_q (Qt_load1 rfl) rfl ?_
      refine TL_take rfl rfl h25 ?_
      refine TL_q (Qt_nilCheck rfl) rfl ?_
      refine TL_take rfl rfl h25 ?_
      refine TL_q (Qt_fieldAddr 4 rfl rfl) rfl ?_
      refine TL_take rfl rfl h25 ?_
      refine TL_q (Qt_load1 rfl) rfl ?_
      refine TL_take rfl rfl h25 ?_
      refine TL_q (Qt_neq rfl rfl) rfl ?_
      refine TL_take rfl rfl h20 ?_
      refine TL_q (Qt_pick_t (.bool _) rfl h25 rfl) rfl ?_
      refine TL_q (Qt_pick_f (.bool _) rfl h20 rfl) rfl ?_
      refine TL_q (Qt_move (.bool _) rfl) rfl ?_
      refine TL_split 34 rfl (fun h34 => ?_) (fun h34 => ?_)
      ·
        have p34 := h34
        try simp only [decide_eq_true_eq, decide_eq_false_iff_not, Bool.not_eq_true', Bool.not_eq_false', Option.isNone_iff_eq_none, ne_eq, Decidable.not_not, Int.not_lt, Int.not_le] at p34
        refine TL_pass rfl rfl h34 rfl ?_
        refine TL_pass rfl rfl h34 rfl ?_
        refine TL_q (Qt_pick_t (.bool _) rfl h34 rfl) rfl ?_
        refine TL_q (Qt_move (.bool _) rfl) rfl ?_
        refine TL_pass rfl rfl rfl rfl ?_
        refine TL_pass rfl rfl rfl rfl ?_
        refine TL_q (Qt_pick_t (.bool _) rfl rfl rfl) rfl ?_
        refine TL_nil ?_
        refine X_then ?_
        refine T_cond_true rfl rfl ?_
        refine T_seq ?_
        refine T_region ?_
        refine TL_q (Qt_assign (.bool _) rfl) rfl ?_
        refine TL_nil ?_
        refine X_then ?_
        refine T_ret ?_
        refine X_then_ret ?_
        first
        | exact X_ret (⟨false, at_, oa, oc, out, fo, t.nx, t.bg⟩ : Sc1) [_] Tryz.results108 ⟨rfl, trivial⟩ rfl (fun w hw => (Subs.st inferInstance w hw : St w0 (blk q0 (.cells #[.slice bv.a bv.l.length bv.c] 41 (0, 0)) :: blk q1 (.cells #[.int .i64 (at_ : Int)] 3 (0, 0)) :: blk q2 (.cells #[.pointer (some ⟨lp, 0, none⟩)] 78 (0, 0)) :: blk q3 (.cells #[.slice oa (out).length oc] 42 (0, 0)) :: row (.slice oa (out).length oc) 41 1 ((out).map BS.val) :: eachA fo out :: lblk lp p pre t :: H) w).addPure (.inl ⟨rfl, stepE_no (h13.2 (by simpa using h20)), rfl, rfl, rfl, rfl⟩))
        | exact X_ret (⟨false, at_, oa, oc, out, fo, t.nx, t.bg⟩ : Sc1) [_] Tryz.results108 ⟨rfl, trivial⟩ rfl (fun w hw => (Subs.st inferInstance w hw : St w0 (blk q0 (.cells #[.slice bv.a bv.l.length bv.c] 41 (0, 0)) :: blk q1 (.cells #[.int .i64 (at_ : Int)] 3 (0, 0)) :: blk q2 (.cells #[.pointer (some ⟨lp, 0, none⟩)] 78 (0, 0)) :: blk q3 (.cells #[.slice oa (out).length oc] 42 (0, 0)) :: row (.slice oa (out).length oc) 41 1 ((out).map BS.val) :: eachA fo out :: lblk lp p pre t :: H) w).addPure (.inl ⟨rfl, stepE_bad (h13.1 (by simpa using h20)) (.inl ⟨h25, by omega⟩), rfl, rfl, rfl, rfl⟩))
        | exact X_ret (⟨false, at_, oa, oc, out, fo, t.nx, t.bg⟩ : Sc1) [_] Tryz.results108 ⟨rfl, trivial⟩ rfl (fun w hw => (Subs.st inferInstance w hw : St w0 (blk q0 (.cells #[.slice bv.a bv.l.length bv.c] 41 (0, 0)) :: blk q1 (.cells #[.int .i64 (at_ : Int)] 3 (0, 0)) :: blk q2 (.cells #[.pointer (some ⟨lp, 0, none⟩)] 78 (0, 0)) :: blk q3 (.cells #[.slice oa (out).length oc] 42 (0, 0)) :: row (.slice oa (out).length oc) 41 1 ((out).map BS.val) :: eachA fo out :: lblk lp p pre t :: H) w).addPure (.inl ⟨rfl, stepE_bad (h13.1 (by simpa using h20)) (.inr (.inl (by omega))), rfl, rfl, rfl, rfl⟩))
        | exact X_ret (⟨false, at_, oa, oc, out, fo, t.nx, t.bg⟩ : Sc1) [_] Tryz.results108 ⟨rfl, trivial⟩ rfl (fun w hw => (Subs.st inferInstance w hw : St w0 (blk q0 (.cells #[.slice bv.a bv.l.length bv.c] 41 (0, 0)) :: blk q1 (.cells #[.int .i64 (at_ : Int)] 3 (0, 0)) :: blk q2 (.cells #[.pointer (some ⟨lp, 0, none⟩)] 78 (0, 0)) :: blk q3 (.cells #[.slice oa (out).length oc] 42 (0, 0)) :: row (.slice oa (out).length oc) 41 1 ((out).map BS.val) :: eachA fo out :: lblk lp p pre t :: H) w).addPure (.inl ⟨rfl, stepE_bad (h13.1 (by simpa using h20)) (.inr (.inr (by omega))), rfl, rfl, rfl, rfl⟩))
      ·
        have p34 := h34
        try simp only [decide_eq_true_eq, decide_eq_false_iff_not, Bool.not_eq_true', Bool.not_eq_false', Option.isNone_iff_eq_none, ne_eq, Decidable.not_not, Int.not_lt, Int.not_le] at p34
        refine TL_take rfl rfl h34 ?_
        refine TL_q (Qt_move (.int .u64 _) rfl) rfl ?_
        refine TL_take rfl rfl h34 ?_
        refine TL_q (Qt_eql rfl rfl) rfl ?_
        refine TL_q (Qt_pick_f (.bool _) rfl h34 rfl) rfl ?_
        refine TL_q (Qt_move (.bool _) rfl) rfl ?_
        refine TL_split 38 rfl (fun h38 => ?_) (fun h38 => ?_)
        ·
          have p38 := h38
          try simp only [decide_eq_true_eq, decide_eq_false_iff_not, Bool.not_eq_true', Bool.not_eq_false', Option.isNone_iff_eq_none, ne_eq, Decidable.not_not, Int.not_lt, Int.not_le] at p38
          refine TL_pass rfl rfl h38 rfl ?_
          refine TL_pass rfl rfl h38 rfl ?_
          refine TL_q (Qt_pick_t (.bool _) rfl h38 rfl) rfl ?_
          refine TL_nil ?_
          refine X_then ?_
          refine T_cond_true rfl rfl ?_
          refine T_seq ?_
          refine T_region ?_
          refine TL_q (Qt_assign (.bool _) rfl) rfl ?_
          refine TL_nil ?_
          refine X_then ?_
          refine T_ret ?_
          refine X_then_ret ?_
          first
          | exact X_ret (⟨false, at_, oa, oc, out, fo, t.nx, t.bg⟩ : Sc1) [_] Tryz.results108 ⟨rfl, trivial⟩ rfl (fun w hw => (Subs.st inferInstance w hw : St w0 (blk q0 (.cells #[.slice bv.a bv.l.length bv.c] 41 (0, 0)) :: blk q1 (.cells #[.int .i64 (at_ : Int)] 3 (0, 0)) :: blk q2 (.cells #[.pointer (some ⟨lp, 0, none⟩)] 78 (0, 0)) :: blk q3 (.cells #[.slice oa (out).length oc] 42 (0, 0)) :: row (.slice oa (out).length oc) 41 1 ((out).map BS.val) :: eachA fo out :: lblk lp p pre t :: H) w).addPure (.inl ⟨rfl, stepE_no (h13.2 (by simpa using h20)), rfl, rfl, rfl, rfl⟩))
          | exact X_ret (⟨false, at_, oa, oc, out, fo, t.nx, t.bg⟩ : Sc1) [_] Tryz.results108 ⟨rfl, trivial⟩ rfl (fun w hw => (Subs.st inferInstance w hw : St w0 (blk q0 (.cells #[.slice bv.a bv.l.length bv.c] 41 (0, 0)) :: blk q1 (.cells #[.int .i64 (at_ : Int)] 3 (0, 0)) :: blk q2 (.cells #[.pointer (some ⟨lp, 0, none⟩)] 78 (0, 0)) :: blk q3 (.cells #[.slice oa (out).length oc] 42 (0, 0)) :: row (.slice oa (out).length oc) 41 1 ((out).map BS.val) :: eachA fo out :: lblk lp p pre t :: H) w).addPure (.inl ⟨rfl, stepE_bad (h13.1 (by simpa using h20)) (.inl ⟨h25, by omega⟩), rfl, rfl, rfl, rfl⟩))
          | exact X_ret (⟨false, at_, oa, oc, out, fo, t.nx, t.bg⟩ : Sc1) [_] Tryz.results108 ⟨rfl, trivial⟩ rfl (fun w hw => (Subs.st inferInstance w hw : St w0 (blk q0 (.cells #[.slice bv.a bv.l.length bv.c] 41 (0, 0)) :: blk q1 (.cells #[.int .i64 (at_ : Int)] 3 (0, 0)) :: blk q2 (.cells #[.pointer (some ⟨lp, 0, none⟩)] 78 (0, 0)) :: blk q3 (.cells #[.slice oa (out).length oc] 42 (0, 0)) :: row (.slice oa (out).length oc) 41 1 ((out).map BS.val) :: eachA fo out :: lblk lp p pre t :: H) w).addPure (.inl ⟨rfl, stepE_bad (h13.1 (by simpa using h20)) (.inr (.inl (by omega))), rfl, rfl, rfl, rfl⟩))
          | exact X_ret (⟨false, at_, oa, oc, out, fo, t.nx, t.bg⟩ : Sc1) [_] Tryz.results108 ⟨rfl, trivial⟩ rfl (fun w hw => (Subs.st inferInstance w hw : St w0 (blk q0 (.cells #[.slice bv.a bv.l.length bv.c] 41 (0, 0)) :: blk q1 (.cells #[.int .i64 (at_ : Int)] 3 (0, 0)) :: blk q2 (.cells #[.pointer (some ⟨lp, 0, none⟩)] 78 (0, 0)) :: blk q3 (.cells #[.slice oa (out).length oc] 42 (0, 0)) :: row (.slice oa (out).length oc) 41 1 ((out).map BS.val) :: eachA fo out :: lblk lp p pre t :: H) w).addPure (.inl ⟨rfl, stepE_bad (h13.1 (by simpa using h20)) (.inr (.inr (by omega))), rfl, rfl, rfl, rfl⟩))
        ·
          have p38 := h38
          try simp only [decide_eq_true_eq, decide_eq_false_iff_not, Bool.not_eq_true', Bool.not_eq_false', Option.isNone_iff_eq_none, ne_eq, Decidable.not_not, Int.not_lt, Int.not_le] at p38
          refine TL_take rfl rfl h38 ?_
          refine TL_q (Qt_move (.int .u64 _) rfl) rfl ?_
          refine TL_take rfl rfl h38 ?_
          refine TL_q (Qt_eql rfl rfl) rfl ?_
          refine TL_q (Qt_pick_f (.bool _) rfl h38 rfl) rfl ?_
          refine TL_nil ?_
          refine X_then ?_
          refine T_cond rfl (fun h41 => ?_) (fun h41 => ?_)
          ·
            have p41 := h41
            try simp only [decide_eq_true_eq, decide_eq_false_iff_not, Bool.not_eq_true', Bool.not_eq_false', Option.isNone_iff_eq_none, ne_eq, Decidable.not_not, Int.not_lt, Int.not_le] at p41
            refine T_seq ?_
            refine T_region ?_
            refine TL_q (Qt_assign (.bool _) rfl) rfl ?_
            refine TL_nil ?_
            refine X_then ?_
            refine T_ret ?_
            refine X_then_ret ?_
            first
            | exact X_ret (⟨false, at_, oa, oc, out, fo, t.nx, t.bg⟩ : Sc1) [_] Tryz.results108 ⟨rfl, trivial⟩ rfl (fun w hw => (Subs.st inferInstance w hw : St w0 (blk q0 (.cells #[.slice bv.a bv.l.length bv.c] 41 (0, 0)) :: blk q1 (.cells #[.int .i64 (at_ : Int)] 3 (0, 0)) :: blk q2 (.cells #[.pointer (some ⟨lp, 0, none⟩)] 78 (0, 0)) :: blk q3 (.cells #[.slice oa (out).length oc] 42 (0, 0)) :: row (.slice oa (out).length oc) 41 1 ((out).map BS.val) :: eachA fo out :: lblk lp p pre t :: H) w).addPure (.inl ⟨rfl, stepE_no (h13.2 (by simpa using h20)), rfl, rfl, rfl, rfl⟩))
            | exact X_ret (⟨false, at_, oa, oc, out, fo, t.nx, t.bg⟩ : Sc1) [_] Tryz.results108 ⟨rfl, trivial⟩ rfl (fun w hw => (Subs.st inferInstance w hw : St w0 (blk q0 (.cells #[.slice bv.a bv.l.length bv.c] 41 (0, 0)) :: blk q1 (.cells #[.int .i64 (at_ : Int)] 3 (0, 0)) :: blk q2 (.cells #[.pointer (some ⟨lp, 0, none⟩)] 78 (0, 0)) :: blk q3 (.cells #[.slice oa (out).length oc] 42 (0, 0)) :: row (.slice oa (out).length oc) 41 1 ((out).map BS.val) :: eachA fo out :: lblk lp p pre t :: H) w).addPure (.inl ⟨rfl, stepE_bad (h13.1 (by simpa using h20)) (.inl ⟨h25, by omega⟩), rfl, rfl, rfl, rfl⟩))
            | exact X_ret (⟨false, at_, oa, oc, out, fo, t.nx, t.bg⟩ : Sc1) [_] Tryz.results108 ⟨rfl, trivial⟩ rfl (fun w hw => (Subs.st inferInstance w hw : St w0 (blk q0 (.cells #[.slice bv.a bv.l.length bv.c] 41 (0, 0)) :: blk q1 (.cells #[.int .i64 (at_ : Int)] 3 (0, 0)) :: blk q2 (.cells #[.pointer (some ⟨lp, 0, none⟩)] 78 (0, 0)) :: blk q3 (.cells #[.slice oa (out).length oc] 42 (0, 0)) :: row (.slice oa (out).length oc) 41 1 ((out).map BS.val) :: eachA fo out :: lblk lp p pre t :: H) w).addPure (.inl ⟨rfl, stepE_bad (h13.1 (by simpa using h20)) (.inr (.inl (by omega))), rfl, rfl, rfl, rfl⟩))
            | exact X_ret (⟨false, at_, oa, oc, out, fo, t.nx, t.bg⟩ : Sc1) [_] Tryz.results108 ⟨rfl, trivial⟩ rfl (fun w hw => (Subs.st inferInstance w hw : St w0 (blk q0 (.cells #[.slice bv.a bv.l.length bv.c] 41 (0, 0)) :: blk q1 (.cells #[.int .i64 (at_ : Int)] 3 (0, 0)) :: blk q2 (.cells #[.pointer (some ⟨lp, 0, none⟩)] 78 (0, 0)) :: blk q3 (.cells #[.slice oa (out).length oc] 42 (0, 0)) :: row (.slice oa (out).length oc) 41 1 ((out).map BS.val) :: eachA fo out :: lblk lp p pre t :: H) w).addPure (.inl ⟨rfl, stepE_bad (h13.1 (by simpa using h20)) (.inr (.inr (by omega))), rfl, rfl, rfl, rfl⟩))
          ·
            have p41 := h41
            try simp only [decide_eq_true_eq, decide_eq_false_iff_not, Bool.not_eq_true', Bool.not_eq_false', Option.isNone_iff_eq_none, ne_eq, Decidable.not_not, Int.not_lt, Int.not_le] at p41
            have hrd := h13.1 (by simpa using h20)
            have hk4 := readE_some hrd
            have hst : stepE (bv.l.drop at_) t.bg t.nx = some (x13.n, x13.r, x13.k) := stepE_yes hrd (by rintro (⟨hb, hn⟩ | hn | hn) <;> first | omega | (rw [hb] at h25; cases h25))
            have hnm : x13.n < 18446744073709551615 := by omega
            refine T_skip ?_
            refine X_then ?_
            refine T_seq ?_
            refine T_region ?_
            refine TL_q (Qt_load1 rfl) rfl ?_
            refine TL_q (Qt_move (.slice _ _ _) rfl) rfl ?_
            refine TL_e rfl (Ef_slice1 (v := .slice _ _ _) rfl (fun a44 c44 => ?_))
            refine TL_e rfl (Ef_appendP (sv := .slice _ _ _) (xv := .slice _ _ _) (⟨x13.a, x13.c, x13.r⟩ : BS) rfl rfl (by omega) rfl (fun a45 c45 => ?_))
            refine TL_n (Ef_store1 (.slice _ _ _) rfl rfl (?_))
            refine TL_nil ?_
            refine X_then ?_
            refine T_seq ?_
            refine T_region ?_
            refine TL_q (Qt_load1 rfl) rfl ?_
            refine TL_q (Qt_move (.int .i64 _) rfl) rfl ?_
            have hkk : at_ + x13.k ≤ bv.l.length := by have := hk4.2.1; rw [List.length_drop] at this; omega
            first
              | refine TL_q (Qt_add rfl rfl (by omega) (by omega)) rfl ?_
              | refine TL_q (Qt_addw rfl rfl) rfl ?_
            rw [show (at_ : Int) + (x13.k : Int) = ((at_ + x13.k : Nat) : Int) from rfl]
            refine TL_n (Ef_store1 (.int .i64 _) rfl rfl (?_))
            refine TL_nil ?_
            refine X_then ?_
            refine T_seq ?_
            refine T_drawF (blk q2 (.cells #[.pointer (some ⟨lp, 0, none⟩)] 78 (0, 0)) :: H) (by kernel_rfl) (Subs.st inferInstance) ?_
            refine DLF_q (i := 0) (by kernel_rfl) rfl (by kernel_rfl) (by kernel_rfl) (Qt_load1 rfl) rfl ?_
            refine DLF_q (i := 1) (by kernel_rfl) rfl (by kernel_rfl) (by kernel_rfl) (Qt_load1 rfl) rfl ?_
            refine DLF_q (i := 2) (by kernel_rfl) rfl (by kernel_rfl) (by kernel_rfl) (Qt_move (.int .u64 _) rfl) rfl ?_
            refine DLF_q (i := 3) (by kernel_rfl) rfl (by kernel_rfl) (by kernel_rfl) (Qt_val (Qt_addw rfl rfl) (congrArg (Value.int .u64) (show IntKind.u64.wrap ((x13.n : Int) + 1) = ((x13.n + 1 : Nat) : Int) from wrap_u64 (by omega) (by omega)))) rfl ?_
            refine DLF_q (i := 4) (by kernel_rfl) rfl (by kernel_rfl) (by kernel_rfl) (Qt_nilCheck rfl) rfl ?_
            refine DLF_q (i := 5) (by kernel_rfl) rfl (by kernel_rfl) (by kernel_rfl) (Qt_fieldAddr 4 rfl rfl) rfl ?_
            refine DLF_1 (i := 6) (by kernel_rfl) ?_
            refine DLS_n rfl (Ef_store1 (.int .u64 _) rfl rfl (⟨(Subs.st inferInstance), ?_⟩))
            refine DLF_q (i := 7) (by kernel_rfl) rfl (by kernel_rfl) (by kernel_rfl) (Qt_nilCheck rfl) rfl ?_
            refine DLF_q (i := 8) (by kernel_rfl) rfl (by kernel_rfl) (by kernel_rfl) (Qt_fieldAddr 5 rfl rfl) rfl ?_
            refine DLF_1 (i := 9) (by kernel_rfl) ?_
            refine DLS_n rfl (Ef_store1 (.bool _) rfl rfl (⟨(Subs.st inferInstance), ?_⟩))
            refine DLF_nil (by kernel_rfl) ?_
            refine X_then ?_
            refine T_seq ?_
            refine T_region ?_
            refine TL_q (Qt_assign (.bool _) rfl) rfl ?_
            refine TL_nil ?_
            refine X_then ?_
            refine T_ret ?_
            exact X_ret (⟨true, at_ + x13.k, a45, c45, out ++ [(⟨x13.a, x13.c, x13.r⟩ : BS)], (rowFp (.slice x13.a x13.r.length x13.c) ++ fo), x13.n + 1, true⟩ : Sc1) [_] Tryz.results108 ⟨rfl, trivial⟩ rfl (fun w hw => by
              have h1 : St w0 (row (BS.val (⟨x13.a, x13.c, x13.r⟩ : BS)) 5 1 (bytesV (BS.l (⟨x13.a, x13.c, x13.r⟩ : BS))) :: eachA fo out :: blk q0 (.cells #[.slice bv.a bv.l.length bv.c] 41 (0, 0)) :: blk q1 (.cells #[.int .i64 ((at_ + x13.k : Nat) : Int)] 3 (0, 0)) :: blk q2 (.cells #[.pointer (some ⟨lp, 0, none⟩)] 78 (0, 0)) :: blk q3 (.cells #[.slice a45 (out ++ [(⟨x13.a, x13.c, x13.r⟩ : BS)]).length c45] 42 (0, 0)) :: row (.slice a45 (out ++ [(⟨x13.a, x13.c, x13.r⟩ : BS)]).length c45) 41 1 ((out ++ [(⟨x13.a, x13.c, x13.r⟩ : BS)]).map BS.val) :: lblk lp p pre (⟨t.ga, t.gc, t.segs, t.siz, (x13.n + 1), true⟩ : LS) :: H) w := Subs.st inferInstance w hw
              have h2 := h1.eachAdd
              exact (Subs.st inferInstance w h2 : St w0 (blk q0 (.cells #[.slice bv.a bv.l.length bv.c] 41 (0, 0)) :: blk q1 (.cells #[.int .i64 ((at_ + x13.k : Nat) : Int)] 3 (0, 0)) :: blk q2 (.cells #[.pointer (some ⟨lp, 0, none⟩)] 78 (0, 0)) :: blk q3 (.cells #[.slice a45 (out ++ [(⟨x13.a, x13.c, x13.r⟩ : BS)]).length c45] 42 (0, 0)) :: row (.slice a45 (out ++ [(⟨x13.a, x13.c, x13.r⟩ : BS)]).length c45) 41 1 ((out ++ [(⟨x13.a, x13.c, x13.r⟩ : BS)]).map BS.val) :: eachA (rowFp (.slice x13.a x13.r.length x13.c) ++ fo) (out ++ [(⟨x13.a, x13.c, x13.r⟩ : BS)]) :: lblk lp p pre (⟨t.ga, t.gc, t.segs, t.siz, (x13.n + 1), true⟩ : LS) :: H) w).addPure (.inr ⟨rfl, x13.n, x13.k, (⟨x13.a, x13.c, x13.r⟩ : BS), hst, rfl, rfl, rfl, rfl⟩))
    ·
      have p25 := h25
      try simp only [decide_eq_true_eq, decide_eq_false_iff_not, Bool.not_eq_true', Bool.not_eq_false', Option.isNone_iff_eq_none, ne_eq, Decidable.not_not, Int.not_lt, Int.not_le] at p25
      refine TL_pass rfl rfl h25 rfl ?_
      refine TL_pass rfl rfl h25 rfl ?_
      refine TL_pass rfl rfl h25 rfl ?_
      refine TL_pass rfl rfl h25 rfl ?_
      refine TL_pass rfl rfl h25 rfl ?_
      refine TL_pass rfl rfl h25 rfl ?_
      refine TL_take rfl rfl h20 ?_
      refine TL_q (Qt_pick_f (.bool _) rfl h25 rfl) rfl ?_
      refine TL_q (Qt_pick_f (.bool _) rfl h20 rfl) rfl ?_
      refine TL_q (Qt_move (.bool _) rfl) rfl ?_
      refine TL_take rfl rfl rfl ?_
      refine TL_q (Qt_move (.int .u64 _) rfl) rfl ?_
      refine TL_take rfl rfl rfl ?_
      refine TL_q (Qt_eql rfl rfl) rfl ?_
      refine TL_q (Qt_pick_f (.bool _) rfl rfl rfl) rfl ?_
      refine TL_q (Qt_move (.bool _) rfl) rfl ?_
      refine TL_split 38 rfl (fun h38 => ?_) (fun h38 => ?_)
      ·
        have p38 := h38
        try simp only [decide_eq_true_eq, decide_eq_false_iff_not, Bool.not_eq_true', Bool.not_eq_false', Option.isNone_iff_eq_none, ne_eq, Decidable.not_not, Int.not_lt, Int.not_le] at p38
        refine TL_pass rfl rfl h38 rfl ?_
        refine TL_pass rfl rfl h38 rfl ?_
        refine TL_q (Qt_pick_t (.bool _) rfl h38 rfl) rfl ?_
        refine TL_nil ?_
        refine X_then ?_
        refine T_cond_true rfl rfl ?_
        refine T_seq ?_
        refine T_region ?_
        refine TL_q (Qt_assign (.bool _) rfl) rfl ?_
        refine TL_nil ?_
        refine X_then ?_
        refine T_ret ?_
        refine X_then_ret ?_
        first
        | exact X_ret (⟨false, at_, oa, oc, out, fo, t.nx, t.bg⟩ : Sc1) [_] Tryz.results108 ⟨rfl, trivial⟩ rfl (fun w hw => (Subs.st inferInstance w hw : St w0 (blk q0 (.cells #[.slice bv.a bv.l.length bv.c] 41 (0, 0)) :: blk q1 (.cells #[.int .i64 (at_ : Int)] 3 (0, 0)) :: blk q2 (.cells #[.pointer (some ⟨lp, 0, none⟩)] 78 (0, 0)) :: blk q3 (.cells #[.slice oa (out).length oc] 42 (0, 0)) :: row (.slice oa (out).length oc) 41 1 ((out).map BS.val) :: eachA fo out :: lblk lp p pre t :: H) w).addPure (.inl ⟨rfl, stepE_no (h13.2 (by simpa using h20)), rfl, rfl, rfl, rfl⟩))
        | exact X_ret (⟨false, at_, oa, oc, out, fo, t.nx, t.bg⟩ : Sc1) [_] Tryz.results108 ⟨rfl, trivial⟩ rfl (fun w hw => (Subs.st inferInstance w hw : St w0 (blk q0 (.cells #[.slice bv.a bv.l.length bv.c] 41 (0, 0)) :: blk q1 (.cells #[.int .i64 (at_ : Int)] 3 (0, 0)) :: blk q2 (.cells #[.pointer (some ⟨lp, 0, none⟩)] 78 (0, 0)) :: blk q3 (.cells #[.slice oa (out).length oc] 42 (0, 0)) :: row (.slice oa (out).length oc) 41 1 ((out).map BS.val) :: eachA fo out :: lblk lp p pre t :: H) w).addPure (.inl ⟨rfl, stepE_bad (h13.1 (by simpa using h20)) (.inl ⟨h25, by omega⟩), rfl, rfl, rfl, rfl⟩))
        | exact X_ret (⟨false, at_, oa, oc, out, fo, t.nx, t.bg⟩ : Sc1) [_] Tryz.results108 ⟨rfl, trivial⟩ rfl (fun w hw => (Subs.st inferInstance w hw : St w0 (blk q0 (.cells #[.slice bv.a bv.l.length bv.c] 41 (0, 0)) :: blk q1 (.cells #[.int .i64 (at_ : Int)] 3 (0, 0)) :: blk q2 (.cells #[.pointer (some ⟨lp, 0, none⟩)] 78 (0, 0)) :: blk q3 (.cells #[.slice oa (out).length oc] 42 (0, 0)) :: row (.slice oa (out).length oc) 41 1 ((out).map BS.val) :: eachA fo out :: lblk lp p pre t :: H) w).addPure (.inl ⟨rfl, stepE_bad (h13.1 (by simpa using h20)) (.inr (.inl (by omega))), rfl, rfl, rfl, rfl⟩))
        | exact X_ret (⟨false, at_, oa, oc, out, fo, t.nx, t.bg⟩ : Sc1) [_] Tryz.results108 ⟨rfl, trivial⟩ rfl (fun w hw => (Subs.st inferInstance w hw : St w0 (blk q0 (.cells #[.slice bv.a bv.l.length bv.c] 41 (0, 0)) :: blk q1 (.cells #[.int .i64 (at_ : Int)] 3 (0, 0)) :: blk q2 (.cells #[.pointer (some ⟨lp, 0, none⟩)] 78 (0, 0)) :: blk q3 (.cells #[.slice oa (out).length oc] 42 (0, 0)) :: row (.slice oa (out).length oc) 41 1 ((out).map BS.val) :: eachA fo out :: lblk lp p pre t :: H) w).addPure (.inl ⟨rfl, stepE_bad (h13.1 (by simpa using h20)) (.inr (.inr (by omega))), rfl, rfl, rfl, rfl⟩))
      ·
        have p38 := h38
        try simp only [decide_eq_true_eq, decide_eq_false_iff_not, Bool.not_eq_true', Bool.not_eq_false', Option.isNone_iff_eq_none, ne_eq, Decidable.not_not, Int.not_lt, Int.not_le] at p38
        refine TL_take rfl rfl h38 ?_
        refine TL_q (Qt_move (.int .u64 _) rfl) rfl ?_
        refine TL_take rfl rfl h38 ?_
        refine TL_q (Qt_eql rfl rfl) rfl ?_
        refine TL_q (Qt_pick_f (.bool _) rfl h38 rfl) rfl ?_
        refine TL_nil ?_
        refine X_then ?_
        refine T_cond rfl (fun h41 => ?_) (fun h41 => ?_)
        ·
          have p41 := h41
          try simp only [decide_eq_true_eq, decide_eq_false_iff_not, Bool.not_eq_true', Bool.not_eq_false', Option.isNone_iff_eq_none, ne_eq, Decidable.not_not, Int.not_lt, Int.not_le] at p41
          refine T_seq ?_
          refine T_region ?_
          refine TL_q (Qt_assign (.bool _) rfl) rfl ?_
          refine TL_nil ?_
          refine X_then ?_
          refine T_ret ?_
          refine X_then_ret ?_
          first
          | exact X_ret (⟨false, at_, oa, oc, out, fo, t.nx, t.bg⟩ : Sc1) [_] Tryz.results108 ⟨rfl, trivial⟩ rfl (fun w hw => (Subs.st inferInstance w hw : St w0 (blk q0 (.cells #[.slice bv.a bv.l.length bv.c] 41 (0, 0)) :: blk q1 (.cells #[.int .i64 (at_ : Int)] 3 (0, 0)) :: blk q2 (.cells #[.pointer (some ⟨lp, 0, none⟩)] 78 (0, 0)) :: blk q3 (.cells #[.slice oa (out).length oc] 42 (0, 0)) :: row (.slice oa (out).length oc) 41 1 ((out).map BS.val) :: eachA fo out :: lblk lp p pre t :: H) w).addPure (.inl ⟨rfl, stepE_no (h13.2 (by simpa using h20)), rfl, rfl, rfl, rfl⟩))
          | exact X_ret (⟨false, at_, oa, oc, out, fo, t.nx, t.bg⟩ : Sc1) [_] Tryz.results108 ⟨rfl, trivial⟩ rfl (fun w hw => (Subs.st inferInstance w hw : St w0 (blk q0 (.cells #[.slice bv.a bv.l.length bv.c] 41 (0, 0)) :: blk q1 (.cells #[.int .i64 (at_ : Int)] 3 (0, 0)) :: blk q2 (.cells #[.pointer (some ⟨lp, 0, none⟩)] 78 (0, 0)) :: blk q3 (.cells #[.slice oa (out).length oc] 42 (0, 0)) :: row (.slice oa (out).length oc) 41 1 ((out).map BS.val) :: eachA fo out :: lblk lp p pre t :: H) w).addPure (.inl ⟨rfl, stepE_bad (h13.1 (by simpa using h20)) (.inl ⟨h25, by omega⟩), rfl, rfl, rfl, rfl⟩))
          | exact X_ret (⟨false, at_, oa, oc, out, fo, t.nx, t.bg⟩ : Sc1) [_] Tryz.results108 ⟨rfl, trivial⟩ rfl (fun w hw => (Subs.st inferInstance w hw : St w0 (blk q0 (.cells #[.slice bv.a bv.l.length bv.c] 41 (0, 0)) :: blk q1 (.cells #[.int .i64 (at_ : Int)] 3 (0, 0)) :: blk q2 (.cells #[.pointer (some ⟨lp, 0, none⟩)] 78 (0, 0)) :: blk q3 (.cells #[.slice oa (out).length oc] 42 (0, 0)) :: row (.slice oa (out).length oc) 41 1 ((out).map BS.val) :: eachA fo out :: lblk lp p pre t :: H) w).addPure (.inl ⟨rfl, stepE_bad (h13.1 (by simpa using h20)) (.inr (.inl (by omega))), rfl, rfl, rfl, rfl⟩))
          | exact X_ret (⟨false, at_, oa, oc, out, fo, t.nx, t.bg⟩ : Sc1) [_] Tryz.results108 ⟨rfl, trivial⟩ rfl (fun w hw => (Subs.st inferInstance w hw : St w0 (blk q0 (.cells #[.slice bv.a bv.l.length bv.c] 41 (0, 0)) :: blk q1 (.cells #[.int .i64 (at_ : Int)] 3 (0, 0)) :: blk q2 (.cells #[.pointer (some ⟨lp, 0, none⟩)] 78 (0, 0)) :: blk q3 (.cells #[.slice oa (out).length oc] 42 (0, 0)) :: row (.slice oa (out).length oc) 41 1 ((out).map BS.val) :: eachA fo out :: lblk lp p pre t :: H) w).addPure (.inl ⟨rfl, stepE_bad (h13.1 (by simpa using h20)) (.inr (.inr (by omega))), rfl, rfl, rfl, rfl⟩))
        ·
          have p41 := h41
          try simp only [decide_eq_true_eq, decide_eq_false_iff_not, Bool.not_eq_true', Bool.not_eq_false', Option.isNone_iff_eq_none, ne_eq, Decidable.not_not, Int.not_lt, Int.not_le] at p41
          have hrd := h13.1 (by simpa using h20)
          have hk4 := readE_some hrd
          have hst : stepE (bv.l.drop at_) t.bg t.nx = some (x13.n, x13.r, x13.k) := stepE_yes hrd (by rintro (⟨hb, hn⟩ | hn | hn) <;> first | omega | (rw [hb] at h25; cases h25))
          have hnm : x13.n < 18446744073709551615 := by omega
          refine T_skip ?_
          refine X_then ?_
          refine T_seq ?_
          refine T_region ?_
          refine TL_q (Qt_load1 rfl) rfl ?_
          refine TL_q (Qt_move (.slice _ _ _) rfl) rfl ?_
          refine TL_e rfl (Ef_slice1 (v := .slice _ _ _) rfl (fun a44 c44 => ?_))
          refine TL_e rfl (Ef_appendP (sv := .slice _ _ _) (xv := .slice _ _ _) (⟨x13.a, x13.c, x13.r⟩ : BS) rfl rfl (by omega) rfl (fun a45 c45 => ?_))
          refine TL_n (Ef_store1 (.slice _ _ _) rfl rfl (?_))
          refine TL_nil ?_
          refine X_then ?_
          refine T_seq ?_
          refine T_region ?_
          refine TL_q (Qt_load1 rfl) rfl ?_
          refine TL_q (Qt_move (.int .i64 _) rfl) rfl ?_
          have hkk : at_ + x13.k ≤ bv.l.length := by have := hk4.2.1; rw [List.length_drop] at this; omega
          first
            | refine TL_q (Qt_add rfl rfl (by omega) (by omega)) rfl ?_
            | refine TL_q (Qt_addw rfl rfl) rfl ?_
          rw [show (at_ : Int) + (x13.k : Int) = ((at_ + x13.k : Nat) : Int) from rfl]
          refine TL_n (Ef_store1 (.int .i64 _) rfl rfl (?_))
          refine TL_nil ?_
          refine X_then ?_
          refine T_seq ?_
          refine T_drawF (blk q2 (.cells #[.pointer (some ⟨lp, 0, none⟩)] 78 (0, 0)) :: H) (by kernel_rfl) (Subs.st inferInstance) ?_
          refine DLF_q (i := 0) (by kernel_rfl) rfl (by kernel_rfl) (by kernel_rfl) (Qt_load1 rfl) rfl ?_
          refine DLF_q (i := 1) (by kernel_rfl) rfl (by kernel_rfl) (by kernel_rfl) (Qt_load1 rfl) rfl ?_
          refine DLF_q (i := 2) (by kernel_rfl) rfl (by kernel_rfl) (by kernel_rfl) (Qt_move (.int .u64 _) rfl) rfl ?_
          refine DLF_q (i := 3) (by kernel_rfl) rfl (by kernel_rfl) (by kernel_rfl) (Qt_val (Qt_addw rfl rfl) (congrArg (Value.int .u64) (show IntKind.u64.wrap ((x13.n : Int) + 1) = ((x13.n + 1 : Nat) : Int) from wrap_u64 (by omega) (by omega)))) rfl ?_
          refine DLF_q (i := 4) (by kernel_rfl) rfl (by kernel_rfl) (by kernel_rfl) (Qt_nilCheck rfl) rfl ?_
          refine DLF_q (i := 5) (by kernel_rfl) rfl (by kernel_rfl) (by kernel_rfl) (Qt_fieldAddr 4 rfl rfl) rfl ?_
          refine DLF_1 (i := 6) (by kernel_rfl) ?_
          refine DLS_n rfl (Ef_store1 (.int .u64 _) rfl rfl (⟨(Subs.st inferInstance), ?_⟩))
          refine DLF_q (i := 7) (by kernel_rfl) rfl (by kernel_rfl) (by kernel_rfl) (Qt_nilCheck rfl) rfl ?_
          refine DLF_q (i := 8) (by kernel_rfl) rfl (by kernel_rfl) (by kernel_rfl) (Qt_fieldAddr 5 rfl rfl) rfl ?_
          refine DLF_1 (i := 9) (by kernel_rfl) ?_
          refine DLS_n rfl (Ef_store1 (.bool _) rfl rfl (⟨(Subs.st inferInstance), ?_⟩))
          refine DLF_nil (by kernel_rfl) ?_
          refine X_then ?_
          refine T_seq ?_
          refine T_region ?_
          refine TL_q (Qt_assign (.bool _) rfl) rfl ?_
          refine TL_nil ?_
          refine X_then ?_
          refine T_ret ?_
          exact X_ret (⟨true, at_ + x13.k, a45, c45, out ++ [(⟨x13.a, x13.c, x13.r⟩ : BS)], (rowFp (.slice x13.a x13.r.length x13.c) ++ fo), x13.n + 1, true⟩ : Sc1) [_] Tryz.results108 ⟨rfl, trivial⟩ rfl (fun w hw => by
            have h1 : St w0 (row (BS.val (⟨x13.a, x13.c, x13.r⟩ : BS)) 5 1 (bytesV (BS.l (⟨x13.a, x13.c, x13.r⟩ : BS))) :: eachA fo out :: blk q0 (.cells #[.slice bv.a bv.l.length bv.c] 41 (0, 0)) :: blk q1 (.cells #[.int .i64 ((at_ + x13.k : Nat) : Int)] 3 (0, 0)) :: blk q2 (.cells #[.pointer (some ⟨lp, 0, none⟩)] 78 (0, 0)) :: blk q3 (.cells #[.slice a45 (out ++ [(⟨x13.a, x13.c, x13.r⟩ : BS)]).length c45] 42 (0, 0)) :: row (.slice a45 (out ++ [(⟨x13.a, x13.c, x13.r⟩ : BS)]).length c45) 41 1 ((out ++ [(⟨x13.a, x13.c, x13.r⟩ : BS)]).map BS.val) :: lblk lp p pre (⟨t.ga, t.gc, t.segs, t.siz, (x13.n + 1), true⟩ : LS) :: H) w := Subs.st inferInstance w hw
            have h2 := h1.eachAdd
            exact (Subs.st inferInstance w h2 : St w0 (blk q0 (.cells #[.slice bv.a bv.l.length bv.c] 41 (0, 0)) :: blk q1 (.cells #[.int .i64 ((at_ + x13.k : Nat) : Int)] 3 (0, 0)) :: blk q2 (.cells #[.pointer (some ⟨lp, 0, none⟩)] 78 (0, 0)) :: blk q3 (.cells #[.slice a45 (out ++ [(⟨x13.a, x13.c, x13.r⟩ : BS)]).length c45] 42 (0, 0)) :: row (.slice a45 (out ++ [(⟨x13.a, x13.c, x13.r⟩ : BS)]).length c45) 41 1 ((out ++ [(⟨x13.a, x13.c, x13.r⟩ : BS)]).map BS.val) :: eachA (rowFp (.slice x13.a x13.r.length x13.c) ++ fo) (out ++ [(⟨x13.a, x13.c, x13.r⟩ : BS)]) :: lblk lp p pre (⟨t.ga, t.gc, t.segs, t.siz, (x13.n + 1), true⟩ : LS) :: H) w).addPure (.inr ⟨rfl, x13.n, x13.k, (⟨x13.a, x13.c, x13.r⟩ : BS), hst, rfl, rfl, rfl, rfl⟩))
theorem scan_startX {w0 w : World} {H : List SA} {b2 b3 b6 b7 lp p : Nat} {pre : ByteArray} {t : LS} {b : BS}
    (hw : St w0 (blk b3 (.cells #[.slice b.a b.l.length b.c] 41 (0, 0)) :: blk b7 (.cells #[.int .i64 0] 3 (0, 0)) :: blk b2 (.cells #[.pointer (some ⟨lp, 0, none⟩)] 78 (0, 0)) :: blk b6 (.cells #[.slice none 0 0] 42 (0, 0)) :: lblk lp p pre t :: H) w) :
    St w0 (blk b3 (.cells #[.slice b.a b.l.length b.c] 41 (0, 0)) :: blk b7 (.cells #[.int .i64 ((0 : Nat) : Int)] 3 (0, 0)) :: blk b2 (.cells #[.pointer (some ⟨lp, 0, none⟩)] 78 (0, 0)) :: blk b6 (.cells #[.slice none ([] : List BS).length 0] 42 (0, 0)) :: row (.slice none ([] : List BS).length 0) 41 1 (([] : List BS).map BS.val) :: eachA [] ([] : List BS) :: lblk lp p pre (⟨t.ga, t.gc, t.segs, t.siz, t.nx, t.bg⟩ : LS) :: H) w := by
  have h1 := (hw.eachNil).addNil 41 1
  exact Subs.st (H := row (.slice none 0 0) 41 1 [] :: eachA [] [] :: blk b3 (.cells #[.slice b.a b.l.length b.c] 41 (0, 0)) :: blk b7 (.cells #[.int .i64 0] 3 (0, 0)) :: blk b2 (.cells #[.pointer (some ⟨lp, 0, none⟩)] 78 (0, 0)) :: blk b6 (.cells #[.slice none 0 0] 42 (0, 0)) :: lblk lp p pre t :: H) (H' := blk b3 (.cells #[.slice b.a b.l.length b.c] 41 (0, 0)) :: blk b7 (.cells #[.int .i64 0] 3 (0, 0)) :: blk b2 (.cells #[.pointer (some ⟨lp, 0, none⟩)] 78 (0, 0)) :: blk b6 (.cells #[.slice none 0 0] 42 (0, 0)) :: row (.slice none 0 0) 41 1 [] :: eachA [] [] :: lblk lp p pre t :: H) inferInstance w h1
set_option maxHeartbeats 1000000 in
theorem scanX_c {w0 : World} {H : List SA} {lp p : Nat} {pre : ByteArray} {t : LS} {b : BS} [rb : RdB w0 H (.slice b.a b.l.length b.c) b.l] (hbl : b.l.length ≤ 4000000000) (hnx : t.nx < 18446744073709551616) :
    CT Tryz.prog w0 (lblk lp p pre t :: H) 65 [.pointer (some ⟨lp, 0, none⟩), .slice b.a b.l.length b.c] (α := ScR) (fun y => .tuple #[.slice y.a y.out.length y.c, .int .i64 (y.at_ : Int)]) (fun y => pu (scanF b.l t.bg t.nx = (y.out.map BS.l, y.at_, y.bg, y.nx)) :: row (.slice y.a (y.out).length y.c) 41 1 ((y.out).map BS.val) :: dat y.fo ⟨y.out, [], []⟩ :: lblk lp p pre (⟨t.ga, t.gc, t.segs, t.siz, y.nx, y.bg⟩ : LS) :: H) := by
  refine CT_intro Tryz.func65 rfl Tryz.ntmps65 rfl ?_
  refine T_seq ?_
  refine T_region ?_
  refine TL_e rfl (Ef_box1 (.pointer _) rfl (fun b2 => ?_))
  refine TL_e rfl (Ef_box1 (.slice _ _ _) rfl (fun b3 => ?_))
  refine TL_q (Qt_assign (.slice _ _ _) rfl) rfl ?_
  refine TL_q (Qt_assign (.int .i64 _) rfl) rfl ?_
  refine TL_nil ?_
  refine X_then ?_
  refine T_seq ?_
  refine T_region ?_
  refine TL_e rfl (Ef_alloc1 (fun b6 => ?_))
  refine TL_nil ?_
  refine X_then ?_
  refine T_seq ?_
  refine T_region ?_
  refine TL_e rfl (Ef_alloc1 (fun b7 => ?_))
  refine TL_n (Ef_store1 (.int .i64 _) rfl rfl (?_))
  refine TL_nil ?_
  refine X_then ?_
  refine T_seq ?_
  refine T_region ?_
  refine TL_q (Qt_makeFunc (args := [.pointer _, .pointer _, .pointer _, .pointer _]) rfl) rfl ?_
  refine TL_q (Qt_assign _ rfl) rfl ?_
  refine TL_nil ?_
  refine X_then ?_
  refine T_seq ?_
  refine T_block ?_
  refine T_loopg (m0 := b.l.length) [10, 11, 12, 13, 14, 15, 16, 17] [] (fun us H' m => ∃ (at_ : Nat) (oa : Option Addr) (oc : Nat) (out : List BS) (fo : List Nat) (nx : Nat) (bg : Bool), us = [] ∧ blk b3 (.cells #[.slice b.a b.l.length b.c] 41 (0, 0)) :: blk b7 (.cells #[.int .i64 ((at_ : Nat) : Int)] 3 (0, 0)) :: blk b2 (.cells #[.pointer (some ⟨lp, 0, none⟩)] 78 (0, 0)) :: blk b6 (.cells #[.slice oa (out).length oc] 42 (0, 0)) :: row (.slice oa (out).length oc) 41 1 ((out).map BS.val) :: eachA fo out :: lblk lp p pre (⟨t.ga, t.gc, t.segs, t.siz, nx, bg⟩ : LS) :: H = H' ∧ m = b.l.length - at_ ∧ at_ ≤ b.l.length ∧ out.length ≤ at_ ∧ nx < 18446744073709551616 ∧ scanF b.l t.bg t.nx = (out.map BS.l ++ (scanF (b.l.drop at_) bg nx).1, at_ + (scanF (b.l.drop at_) bg nx).2.1, (scanF (b.l.drop at_) bg nx).2.2)) ⟨0, none, 0, [], [], t.nx, t.bg, rfl, rfl, by omega, by omega, Nat.le_refl _, hnx, scan_first _ _ _⟩ (fun w hw => scan_startX (Subs.st inferInstance w hw)) ?_
  rintro τ0 _ _ m ⟨at_, oa, oc, out, fo, nx, bg, rfl, rfl, rfl, hat, hol, hnx2, hs⟩ _
  refine T_seq ?_
  refine T_seq ?_
  refine T_region ?_
  refine TL_q (Qt_load1 rfl) rfl ?_
  refine TL_q (Qt_load1 rfl) rfl ?_
  refine TL_q (Qt_len_slice rfl Tryz.underlying41) rfl ?_
  refine TL_q (Qt_lss rfl rfl) rfl ?_
  refine TL_q (Qt_move (.bool _) rfl) rfl ?_
  refine TL_split 14 rfl (fun h14 => ?_) (fun h14 => ?_)
  ·
    have p14 := h14
    try simp only [decide_eq_true_eq, decide_eq_false_iff_not, Bool.not_eq_true', Bool.not_eq_false', Option.isNone_iff_eq_none, ne_eq, Decidable.not_not, Int.not_lt, Int.not_le] at p14
    refine TL_take rfl rfl h14 ?_
    refine TL_q (Qt_move _ rfl) rfl ?_
    refine TL_conv (fun w hw => (Subs.st inferInstance w hw : St w0 (blk b3 (.cells #[.slice b.a b.l.length b.c] 41 (0, 0)) :: blk b7 (.cells #[.int .i64 ((at_ : Nat) : Int)] 3 (0, 0)) :: blk b2 (.cells #[.pointer (some ⟨lp, 0, none⟩)] 78 (0, 0)) :: blk b6 (.cells #[.slice oa (out).length oc] 42 (0, 0)) :: row (.slice oa (out).length oc) 41 1 ((out).map BS.val) :: eachA fo out :: lblk lp p pre (⟨t.ga, t.gc, t.segs, t.siz, nx, bg⟩ : LS) :: H) w)) ?_
    refine TL_take rfl rfl h14 ?_
    refine TL_e rfl (Ef_callF (argv := []) (caps := [_, _, _, _]) (scan1X_c (q0 := b3) (q1 := b7) (q2 := b2) (q3 := b6) (t := (⟨t.ga, t.gc, t.segs, t.siz, nx, bg⟩ : LS)) (bv := b) (at_ := at_) (out := out) (fo := fo) hbl hat (by omega)) rfl rfl (fun x16 => ?_))
    refine TL_pure (fun h16 => ?_)
    refine TL_q (Qt_pick_t (.bool _) rfl h14 rfl) rfl ?_
    refine TL_nil ?_
    refine X_then ?_
    refine T_cond rfl (fun h17 => ?_) (fun h17 => ?_)
    ·
      have p17 := h17
      try simp only [decide_eq_true_eq, decide_eq_false_iff_not, Bool.not_eq_true', Bool.not_eq_false', Option.isNone_iff_eq_none, ne_eq, Decidable.not_not, Int.not_lt, Int.not_le] at p17
      obtain ⟨hf, -⟩ | ⟨-, n, k, bb, hst, e1, e2, e3, e4⟩ := h16
      · rw [hf] at h17; cases h17
      replace hst : stepE (b.l.drop at_) bg nx = some (n, bb.l, k) := hst
      have hk4 := readE_some (stepE_read hst).1
      rw [List.length_drop] at hk4
      have hnm : n ≠ 18446744073709551615 := fun h => (stepE_read hst).2 (.inr (.inr h))
      have hnext := scan_next hs hst
      refine T_skip ?_
      refine X_then ?_
      refine T_block ?_
      refine T_skip ?_
      refine X_block ?_
      refine X_loopg _ (by repeat (first | with_reducible exact agree_refl | refine agree_upd rfl ?_ | refine agree_mix rfl ?_ | refine agree_setAll rfl ?_)) (⟨x16.at_, x16.a, x16.c, x16.out, x16.fo, x16.nx, x16.bg, rfl, rfl, rfl, by rw [e1]; omega, by rw [e1, e2, List.length_append, List.length_singleton]; omega, by rw [e3]; omega, by rw [e1, e2, e3, e4]; exact hnext⟩) (by rw [e1]; omega) ((Subs.st inferInstance))
    ·
      have p17 := h17
      try simp only [decide_eq_true_eq, decide_eq_false_iff_not, Bool.not_eq_true', Bool.not_eq_false', Option.isNone_iff_eq_none, ne_eq, Decidable.not_not, Int.not_lt, Int.not_le] at p17
      obtain ⟨-, hst, e1, e2, e3, e4⟩ | ⟨hf, -⟩ := h16
      rotate_left
      · rw [hf] at h17; cases h17
      replace hst : stepE (b.l.drop at_) bg nx = none := hst
      have hfin := scan_last hs hst
      rw [e1, e2, e3, e4]
      refine T_exit ?_
      refine X_then_exit ?_
      refine X_loopg_exit ?_
      refine X_block_exit ?_
      refine X_then ?_
      refine T_seq ?_
      refine T_draw _ [(0, true), (1, true), (2, true), (3, true)] (by kernel_rfl) (by kernel_rfl) rfl (by kernel_rfl) (fun _ hh => hh) (fun hns0 => ?_)
      refine DL_q hns0 rfl (Qt_load1 rfl) rfl ?_
      refine DL_q hns0 rfl (Qt_load1 rfl) rfl ?_
      refine DL_q hns0 rfl (Qt_assign (.slice _ _ _) rfl) rfl ?_
      refine DL_q hns0 rfl (Qt_assign (.int .i64 _) rfl) rfl ?_
      refine DL_nil ?_
      refine X_then ?_
      refine T_ret ?_
      first
      | exact X_ret (⟨oa, oc, out, fo, at_, nx, bg⟩ : ScR) [_, _] Tryz.results65 ⟨rfl, rfl, trivial⟩ rfl (fun w hw => by
        have h1 : St w0 (eachA fo out :: row (.slice oa (out).length oc) 41 1 ((out).map BS.val) :: lblk lp p pre (⟨t.ga, t.gc, t.segs, t.siz, nx, bg⟩ : LS) :: H) w := Subs.st inferInstance w hw
        exact (Subs.st inferInstance w (St.datEach h1) : St w0 (row (.slice oa (out).length oc) 41 1 ((out).map BS.val) :: dat fo ⟨out, [], []⟩ :: lblk lp p pre (⟨t.ga, t.gc, t.segs, t.siz, nx, bg⟩ : LS) :: H) w).addPure hfin)
      | exact X_ret (⟨x16.a, x16.c, out, x16.fo, at_, nx, bg⟩ : ScR) [_, _] Tryz.results65 ⟨rfl, rfl, trivial⟩ rfl (fun w hw => by
        have h1 : St w0 (eachA x16.fo out :: row (.slice x16.a (out).length x16.c) 41 1 ((out).map BS.val) :: lblk lp p pre (⟨t.ga, t.gc, t.segs, t.siz, nx, bg⟩ : LS) :: H) w := Subs.st inferInstance w hw
        exact (Subs.st inferInstance w (St.datEach h1) : St w0 (row (.slice x16.a (out).length x16.c) 41 1 ((out).map BS.val) :: dat x16.fo ⟨out, [], []⟩ :: lblk lp p pre (⟨t.ga, t.gc, t.segs, t.siz, nx, bg⟩ : LS) :: H) w).addPure hfin)
  ·
    have p14 := h14
    try simp only [decide_eq_true_eq, decide_eq_false_iff_not, Bool.not_eq_true', Bool.not_eq_false', Option.isNone_iff_eq_none, ne_eq, Decidable.not_not, Int.not_lt, Int.not_le] at p14
    have hend : stepE (b.l.drop at_) bg nx = none := stepE_no (by rw [List.drop_eq_nil_of_le (by omega)]; exact readE_nil)
    have hfin := scan_last hs hend
    refine TL_pass rfl rfl h14 rfl ?_
    refine TL_conv (fun w hw => (Subs.st inferInstance w hw : St w0 (blk b3 (.cells #[.slice b.a b.l.length b.c] 41 (0, 0)) :: blk b7 (.cells #[.int .i64 ((at_ : Nat) : Int)] 3 (0, 0)) :: blk b2 (.cells #[.pointer (some ⟨lp, 0, none⟩)] 78 (0, 0)) :: blk b6 (.cells #[.slice oa (out).length oc] 42 (0, 0)) :: row (.slice oa (out).length oc) 41 1 ((out).map BS.val) :: eachA fo out :: lblk lp p pre (⟨t.ga, t.gc, t.segs, t.siz, nx, bg⟩ : LS) :: H) w)) ?_
    refine TL_pass rfl rfl h14 rfl ?_
    refine TL_q (Qt_pick_f (.bool _) rfl h14 rfl) rfl ?_
    refine TL_nil ?_
    refine X_then ?_
    refine T_cond_false rfl rfl ?_
    refine T_exit ?_
    refine X_then_exit ?_
    refine X_loopg_exit ?_
    refine X_block_exit ?_
    refine X_then ?_
    refine T_seq ?_
    refine T_draw _ [(0, true), (1, true), (2, true), (3, true)] (by kernel_rfl) (by kernel_rfl) rfl (by kernel_rfl) (fun _ hh => hh) (fun hns1 => ?_)
    refine DL_q hns1 rfl (Qt_load1 rfl) rfl ?_
    refine DL_q hns1 rfl (Qt_load1 rfl) rfl ?_
    refine DL_q hns1 rfl (Qt_assign (.slice _ _ _) rfl) rfl ?_
    refine DL_q hns1 rfl (Qt_assign (.int .i64 _) rfl) rfl ?_
    refine DL_nil ?_
    refine X_then ?_
    refine T_ret ?_
    first
    | exact X_ret (⟨oa, oc, out, fo, at_, nx, bg⟩ : ScR) [_, _] Tryz.results65 ⟨rfl, rfl, trivial⟩ rfl (fun w hw => by
      have h1 : St w0 (eachA fo out :: row (.slice oa (out).length oc) 41 1 ((out).map BS.val) :: lblk lp p pre (⟨t.ga, t.gc, t.segs, t.siz, nx, bg⟩ : LS) :: H) w := Subs.st inferInstance w hw
      exact (Subs.st inferInstance w (St.datEach h1) : St w0 (row (.slice oa (out).length oc) 41 1 ((out).map BS.val) :: dat fo ⟨out, [], []⟩ :: lblk lp p pre (⟨t.ga, t.gc, t.segs, t.siz, nx, bg⟩ : LS) :: H) w).addPure hfin)
    | exact X_ret (⟨x16.a, x16.c, out, x16.fo, at_, nx, bg⟩ : ScR) [_, _] Tryz.results65 ⟨rfl, rfl, trivial⟩ rfl (fun w hw => by
      have h1 : St w0 (eachA x16.fo out :: row (.slice x16.a (out).length x16.c) 41 1 ((out).map BS.val) :: lblk lp p pre (⟨t.ga, t.gc, t.segs, t.siz, nx, bg⟩ : LS) :: H) w := Subs.st inferInstance w hw
      exact (Subs.st inferInstance w (St.datEach h1) : St w0 (row (.slice x16.a (out).length x16.c) 41 1 ((out).map BS.val) :: dat x16.fo ⟨out, [], []⟩ :: lblk lp p pre (⟨t.ga, t.gc, t.segs, t.siz, nx, bg⟩ : LS) :: H) w).addPure hfin)
end
end Go.Proofs.YtgeknnclmhfjlaaGreatDoor
