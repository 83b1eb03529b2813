/- Walks of package logs: names, records, what begins a segment. -/
import Derived.Test.YtgfbdcjamalhhaaGreatDoorLi
import Derived.Test.YtgfbdcjamalhhaaGreatDoorSha
namespace Go.Proofs.YtgfbdcjamalhhaaGreatDoor
open Go.RowKit Go.Sx
set_option maxRecDepth 100000
set_option linter.unusedSimpArgs false
set_option linter.unusedVariables false
theorem Qt_slice_arrH {P : Program} {w0 : World} {σ : Env} {H : List SA} {d : Option Nat} {ty : TypeId} {pos : String} {aft : Array Edge} {g : Option (Nat × Bool)} {x hi : Operand} {t e n m b o : Nat} {i : TypeInfo} {k : IntKind} (hx : ev σ x = .pointer (some ⟨b, o, none⟩)) (hh : ev σ hi = .int k (m : Int)) (hu : P.underlying t = some (.array n e)) (hi' : P.info? e = some i) (hn : Nat.blt 0 n = true) (hm : m ≤ n) :
    Qt P w0 H σ ⟨d, .slice t x none (some hi) none, ty, pos, aft, g⟩ (.slice (some ⟨b, o, none⟩) m n) := fun w _ => by
  have h0 : n ≠ 0 := by simp only [Nat.blt_eq] at hn; omega
  have h1 : ¬ ((m : Int) < 0) := by omega
  have h2 : ¬ ((n : Int) < (m : Int)) := by omega
  simp only [execOp, hx, hh, Option.map_none, Option.map_some, Instr.sliceAt, Sem.run_bind, run_underlying hu, Result.andThen_ok, Instr.sureAddr, Sem.run_pure, Instr.sliceBounds, Instr.sliceBound, asIntOf, run_sizeOf_of hi', h0, if_false, Nat.zero_mul, Nat.sub_zero]
  simp [Addr.add, asIntOf, h1, h2, hm]
theorem RdB.hashPre {w0 : World} {H : List SA} {b n m : Nat} {T : TypeId} {fz : Nat × Nat} (x : Vector UInt8 n) (hm : Mem w0 H b (.cells (hlist x).toArray T fz)) (hmn : m ≤ n) (hn : n ≤ 1000) : RdB w0 H (.slice (some ⟨b, 0, none⟩) (x.toList.take m).length n) (x.toList.take m) :=
  ⟨fun w hw => ⟨_, _, _, rfl, by simp [bytesV], by simp; omega, by unfold maxLen; omega, fun _ => ⟨b, 0, rfl, fun j u hj => by
    rw [cell_of_blk (hm.get w hw)]
    have hj2 : (bytesV (x.toList.take m))[j]? = some u := hj
    rw [Nat.zero_add]
    unfold bytesV at hj2
    rw [List.map_take, List.getElem?_take] at hj2
    split at hj2
    · simpa [hlist, bytesV] using hj2
    · cases hj2⟩⟩⟩
/-- A text's piece. -/
@[reducible] def encN (n : Nat) : List Value := [.int .i64 (n : Int)]
theorem encN_get (l : List Nat) (i : Nat) (h : i < l.length) : (l.flatMap encN)[i]? = some (.int .i64 (l[i] : Int)) := by
  have := flat_get encN 1 (fun _ => rfl) l i 0 h (by decide)
  simpa using this
theorem encN_len (l : List Nat) : (l.flatMap encN).length = l.length := by have := flat_len encN 1 (fun _ => rfl) l; simpa using this
/-- A log, as far as it is not its disk. -/
structure LS where
  ga : Option Addr
  gc : Nat
  segs : List Nat
  siz : Nat
  nx : Nat
  bg : Bool
@[reducible] def lblk (lp p : Nat) (pre : ByteArray) (t : LS) : SA := blk lp (.cells (LogV.mk (some ⟨p, 0, none⟩) pre ⟨t.ga, t.segs.length, t.gc⟩ (t.siz : Int) (t.nx : Int) t.bg).cells 101 (0, 0))
@[reducible] def lrow (t : LS) : SA := row (.slice t.ga t.segs.length t.gc) 3 1 (t.segs.flatMap encN)
def dotB : ByteArray := ⟨#[46]⟩
def nmB (pre : ByteArray) (i : Nat) : ByteArray := pre ++ dotB ++ ⟨(Lib.decDigits i).toArray⟩
/-- A record's bytes. -/
def toldB (n : Nat) (l : List UInt8) : List UInt8 := packed n ++ packed l.length ++ l ++ (sha (packed n ++ packed l.length ++ l)).toList.take 8
def recsB : Nat → List (List UInt8) → List UInt8
  | _, [] => []
  | n, l :: ls => toldB n l ++ recsB (n + 1) ls
theorem recsB_app (ls ms : List (List UInt8)) : ∀ n, recsB n (ls ++ ms) = recsB n ls ++ recsB (n + ls.length) ms := by
  induction ls with
  | nil => intro n; rfl
  | cons l ls ih => intro n; simp only [List.cons_append, recsB, ih, List.append_assoc, List.length_cons]; congr 3; omega
theorem toldB_len (n : Nat) (hn : n < 18446744073709551616) (l : List UInt8) (hl : l.length ≤ 4294967000) : (toldB n l).length ≤ l.length + 28 ∧ 8 ≤ (toldB n l).length := by
  have h1 := packed_length_le n (by omega)
  have h2 := packed_length_le l.length (by omega)
  unfold toldB
  simp only [List.length_append, List.length_take, Vector.length_toList]
  omega
theorem recsB_len (ls : List (List UInt8)) : ∀ n, n + ls.length < 18446744073709551616 → (∀ l ∈ ls, l.length ≤ 1000) → (recsB n ls).length ≤ 1028 * ls.length := by
  induction ls with
  | nil => intro n _ _; simp [recsB]
  | cons l ls ih =>
    intro n hn hl
    have h1 := toldB_len n (by simp at hn; omega) l (by have := hl l (by simp); omega)
    have h2 := ih (n + 1) (by simp at hn; omega) (fun x hx => hl x (by simp [hx]))
    have h3 := hl l (by simp)
    simp only [recsB, List.length_append, List.length_cons]; omega
def lastN (l : List Nat) : Nat := l.getLastD 0
theorem last_get {l : List Nat} (h : 0 < l.length) : (l.flatMap encN)[((l.length : Int) - 1).toNat]? = some (.int .i64 ((lastN l : Nat) : Int)) := by
  have e : ((l.length : Int) - 1).toNat = l.length - 1 := by omega
  rw [e, encN_get l (l.length - 1) (by omega)]
  unfold lastN
  rw [List.getLastD_eq_getLast?, List.getLast?_eq_getElem?, List.getElem?_eq_getElem (by omega)]
  rfl
def newN (l : List Nat) : Nat := if l.length = 0 then 1 else lastN l + 1
/-- What a segment that is begun with records leaves. -/
def BeginR (pre : ByteArray) (s : DS) (t : LS) (ls : List (List UInt8)) (s' : DS) (t' : LS) (e : Int) : Prop :=
  AppR 2 (oldE s.e2 (nmB pre (newN t.segs))).l.length s (nmB pre (newN t.segs)) (recsB t.nx ls) s' e ∧ (e ≠ 0 → t' = t) ∧
  (e = 0 → t'.segs = t.segs ++ [newN t.segs] ∧ t'.siz = (recsB t.nx ls).length ∧ t'.nx = t.nx + ls.length ∧ t'.bg = t.bg)
attribute [local irreducible] sha
theorem str_add {a b : ByteArray} (h : a.size + b.size ≤ 1000000) : Op.stringOp .add a b = pure (.string (a ++ b)) := by
  have : ¬ (((a.size + b.size : Nat) : Int) > IntKind.i64.max) := by show ¬ ((9223372036854775807 : Int) < _); omega
  simp only [Op.stringOp, if_neg this]
theorem nm_size (i : Nat) (hi : i < 100) : (⟨(Lib.decDigits i).toArray⟩ : ByteArray).size ≤ 2 := by
  show (Lib.decDigits i).toArray.size ≤ 2
  by_cases h : i < 10
  · rw [Lib.decDigits_one h]; simp
  · rw [Lib.decDigits_two h hi]; simp
set_option maxHeartbeats 1000000 in
theorem name_c {w0 : World} {H : List SA} {lp p : Nat} {pre : ByteArray} {t : LS} (hp : pre.size ≤ 1000) {i : Nat} (hi : i < 100) :
    CT Tryz.prog w0 (lblk lp p pre t :: H) 38 [.pointer (some ⟨lp, 0, none⟩), .int .i64 (i : Int)] (α := Unit) (fun _ => .string (nmB pre i)) (fun _ => lblk lp p pre t :: H) := by
  refine CT_intro Tryz.func38 rfl Tryz.ntmps38 rfl ?_
  refine T_seq ?_
  refine T_region ?_
  refine TL_q (Qt_assign (.string _) rfl) rfl ?_
  refine TL_nil ?_
  refine X_then ?_
  refine T_seq ?_
  refine T_draw _ [(0, true), (1, true), (2, true), (3, true), (4, true), (5, true), (6, false), (7, true), (8, true)] (by kernel_rfl) (by kernel_rfl) rfl (by kernel_rfl) (fun _ hh => hh) (fun hns0 => ?_)
  refine DL_q hns0 rfl (Qt_move (.pointer _) rfl) rfl ?_
  refine DL_q hns0 rfl (Qt_nilCheck rfl) rfl ?_
  refine DL_q hns0 rfl (Qt_fieldAddr 1 rfl rfl) rfl ?_
  refine DL_q hns0 rfl (Qt_load1 rfl) rfl ?_
  refine DL_q hns0 rfl (Qt_str_op (v := .string (pre ++ dotB)) rfl rfl (str_add (b := dotB) (by have : dotB.size = 1 := rfl; omega))) rfl ?_
  refine DL_q hns0 rfl (Qt_move (.int .i64 _) rfl) rfl ?_
  refine DL_e rfl rfl (Ef_call (itoa_c hi) rfl (fun x11 => ⟨(Subs.st inferInstance), ?_⟩))
  refine DL_q hns0 rfl (Qt_str_op (v := .string (nmB pre i)) rfl rfl (str_add (by have h1 := nm_size i hi; have h2 : dotB.size = 1 := rfl; rw [ByteArray.size_append, h2]; show _ + (⟨(Lib.decDigits i).toArray⟩ : ByteArray).size ≤ _; omega))) rfl ?_
  refine DL_q hns0 rfl (Qt_assign (.string _) rfl) rfl ?_
  refine DL_nil ?_
  refine X_then ?_
  refine T_ret ?_
  exact X_ret () [_] Tryz.results38 ⟨rfl, trivial⟩ rfl (Subs.st inferInstance)
set_option maxHeartbeats 1000000 in
theorem told_c {w0 : World} {H : List SA} {n : Nat} (hn : n < 18446744073709551616) {b : BS} [rb : RdB w0 H (.slice b.a b.l.length b.c) b.l] (hl : b.l.length ≤ 1000000) :
    CT Tryz.prog w0 (H) 42 [.int .u64 (n : Int), .slice b.a b.l.length b.c] (α := AC) (fun y => .slice y.a (toldB n b.l).length y.c) (fun y => row (.slice y.a (toldB n b.l).length y.c) 5 1 (bytesV (toldB n b.l)) :: H) := by
  refine CT_intro Tryz.func42 rfl Tryz.ntmps42 rfl ?_
  refine T_seq ?_
  refine T_region ?_
  refine TL_q (Qt_assign (.slice _ _ _) rfl) rfl ?_
  refine TL_nil ?_
  refine X_then ?_
  refine T_seq ?_
  refine T_region ?_
  refine TL_q (Qt_move (.int .u64 _) rfl) rfl ?_
  have hp1 := packed_length_le n (by omega)
  have hp2 := packed_length_le b.l.length (by omega)
  refine TL_e rfl (Ef_call (putPacked_c (a := none) (l := []) (c := 0) (x := (n : Int)) (hr := RdB.nil') (by simp) (by omega) (by omega)) rfl (fun x8 => ?_))
  rw [List.nil_append, Int.toNat_natCast]
  refine TL_q (Qt_move (.slice _ _ _) rfl) rfl ?_
  refine TL_e rfl (Ef_call (putText_c (l := packed n) (l2 := b.l) (by omega) (by omega)) rfl (fun x10 => ?_))
  refine TL_q (Qt_assign (.slice _ _ _) rfl) rfl ?_
  refine TL_nil ?_
  refine X_then ?_
  refine T_seq ?_
  refine T_region ?_
  refine TL_q (Qt_move (.slice _ _ _) rfl) rfl ?_
  refine TL_e rfl (Ef_call (sum_c (l := (packed n ++ packed b.l.length ++ b.l)) (by simp only [List.length_append]; omega)) rfl (fun x12 => ?_))
  refine TL_e rfl (Ef_allocN (fun b6 => ?_))
  refine TL_n (Ef_storeN rfl rfl (?_))
  refine TL_nil ?_
  refine X_then ?_
  refine T_seq ?_
  refine T_region ?_
  refine TL_q (Qt_move (.slice _ _ _) rfl) rfl ?_
  refine TL_q (Qt_val (Qt_slice_arrH (m := 8) rfl rfl Tryz.underlying47 rfl rfl (by decide)) (show Value.slice (some ⟨b6, 0, none⟩) 8 32 = .slice (some ⟨b6, 0, none⟩) ((sha (packed n ++ packed b.l.length ++ b.l)).toList.take 8).length 32 from by simp)) rfl ?_
  refine TL_e rfl (Ef_appendB (sv := .slice _ _ _) (xv := .slice _ _ _) (hn := RdB.hashPre (sha (packed n ++ packed b.l.length ++ b.l)) inferInstance (by decide) (by decide)) (l := (packed n ++ packed b.l.length ++ b.l)) rfl rfl (by simp only [List.length_append, List.length_take, Vector.length_toList]; omega) rfl (fun a15 c15 => ?_))
  rw [show (packed n ++ packed b.l.length ++ b.l) ++ (sha (packed n ++ packed b.l.length ++ b.l)).toList.take 8 = toldB n b.l from rfl]
  refine TL_q (Qt_assign (.slice _ _ _) rfl) rfl ?_
  refine TL_nil ?_
  refine X_then ?_
  refine T_ret ?_
  exact X_ret ⟨a15, c15⟩ [_] Tryz.results42 ⟨rfl, trivial⟩ rfl (Subs.st inferInstance)
theorem recs_step {n k : Nat} {rs : List BS} (hk : k < rs.length) : recsB n ((rs.map BS.l).take k) ++ toldB (n + k) rs[k].l = recsB n ((rs.map BS.l).take (k + 1)) := by
  rw [List.take_add_one, List.getElem?_eq_getElem (by simpa using hk), recsB_app]
  simp only [List.length_take, List.length_map, Option.toList, recsB, List.getElem_map, List.append_nil]
  rw [Nat.min_eq_left (by omega)]
theorem recs_len (n : Nat) (rs : List BS) (k : Nat) (hn : n ≤ 1000000) (hr : rs.length ≤ 9) (h : ∀ x ∈ rs, x.l.length ≤ 1000) : (recsB n ((rs.map BS.l).take k)).length ≤ 10000 := by
  have h1 := recsB_len ((rs.map BS.l).take k) n (by simp; omega) (fun l hl => by
    obtain ⟨x, hx, rfl⟩ := List.mem_map.1 (List.mem_of_mem_take hl)
    exact h x hx)
  have h2 : ((rs.map BS.l).take k).length ≤ 9 := by simp; omega
  omega
theorem recs0 (n : Nat) (l : List (List UInt8)) : recsB n (l.take 0) = [] := rfl
attribute [local irreducible] toldB recsB nmB lastN
set_option maxHeartbeats 1000000 in
theorem begin0_c {w0 : World} {H : List SA} {lp p : Nat} {pre : ByteArray} {t : LS} {s : DS} {M K : Nat} (hok : s.Ok M K) (hM : M ≤ 1000000) (hK : K ≤ 1000000000) (hK2 : 10000 ≤ K) (hp : pre.size ≤ 1000) (hsl : t.segs.length ≤ 1000) (hs : t.segs.length = 0) {ra : Option Addr} {rc : Nat} {rs : List BS} [rk : RdC w0 H (.slice ra rs.length rc) 1 (rs.map BS.val)] [rke : RdE w0 H rs] (hr8 : rs.length ≤ 9) (hrl : ∀ x ∈ rs, x.l.length ≤ 1000) (hnx : t.nx ≤ 1000000) :
    CT Tryz.prog w0 (lblk lp p pre t :: lrow t :: DS.H p s H) 41 [.pointer (some ⟨lp, 0, none⟩), .slice ra rs.length rc] (α := DS × LS × Int) (fun y => .int .i64 y.2.2) (fun y => pu (BeginR pre s t (rs.map BS.l) y.1 y.2.1 y.2.2) :: lblk lp p pre y.2.1 :: lrow y.2.1 :: DS.H p y.1 H) := by
  refine CT_intro Tryz.func41 rfl Tryz.ntmps41 rfl ?_
  refine T_seq ?_
  refine T_region ?_
  refine TL_q (Qt_assign (.int .i64 _) rfl) rfl ?_
  refine TL_nil ?_
  refine X_then ?_
  refine T_seq ?_
  refine T_region ?_
  refine TL_q (Qt_assign (.int .i64 _) rfl) rfl ?_
  refine TL_nil ?_
  refine X_then ?_
  refine T_seq ?_
  refine T_seq ?_
  refine T_region ?_
  refine TL_q (Qt_move (.pointer _) rfl) rfl ?_
  refine TL_q (Qt_nilCheck rfl) rfl ?_
  refine TL_q (Qt_fieldAddr 2 rfl rfl) rfl ?_
  refine TL_q (Qt_load1 rfl) rfl ?_
  refine TL_q (Qt_len_slice rfl Tryz.underlying99) rfl ?_
  refine TL_q (Qt_assign (.int .i64 _) rfl) rfl ?_
  refine TL_nil ?_
  refine X_then ?_
  refine T_seq ?_
  refine T_region ?_
  refine TL_q (Qt_move (.int .i64 _) rfl) rfl ?_
  refine TL_q (Qt_gtr rfl rfl) rfl ?_
  refine TL_nil ?_
  refine X_then ?_
  refine T_cond rfl (fun h18 => ?_) (fun h18 => ?_)
  ·
    have p18 := h18
    try simp only [decide_eq_true_eq, decide_eq_false_iff_not, Bool.not_eq_true', Bool.not_eq_false', Option.isNone_iff_eq_none, ne_eq, Decidable.not_not, Int.not_lt, Int.not_le] at p18
    exact absurd p18 (by omega)
  ·
    have p18 := h18
    try simp only [decide_eq_true_eq, decide_eq_false_iff_not, Bool.not_eq_true', Bool.not_eq_false', Option.isNone_iff_eq_none, ne_eq, Decidable.not_not, Int.not_lt, Int.not_le] at p18
    refine T_skip ?_
    refine X_then ?_
    refine T_seq ?_
    refine T_region ?_
    refine TL_q (Qt_assign (.slice _ _ _) rfl) rfl ?_
    refine TL_nil ?_
    refine X_then ?_
    refine T_seq ?_
    refine T_region ?_
    refine TL_q (Qt_move (.pointer _) rfl) rfl ?_
    refine TL_q (Qt_nilCheck rfl) rfl ?_
    refine TL_q (Qt_fieldAddr 4 rfl rfl) rfl ?_
    refine TL_q (Qt_load1 rfl) rfl ?_
    refine TL_q (Qt_assign (.int .u64 _) rfl) rfl ?_
    refine TL_nil ?_
    refine X_then ?_
    refine T_seq ?_
    refine T_seq ?_
    refine T_region ?_
    refine TL_q (Qt_move (.slice _ _ _) rfl) rfl ?_
    refine TL_q (Qt_len_slice rfl Tryz.underlying22) rfl ?_
    refine TL_q (Qt_move (.int .i64 _) rfl) rfl ?_
    refine TL_nil ?_
    refine X_then ?_
    refine T_block ?_
    refine T_loop [7, 8, 10, 34, 35, 36, 37, 38, 39, 40, 41, 42, 43, 44, 45] [34, 7, 8] (fun us H' => ∃ (k : Nat) (ba : Option Addr) (bc : Nat), us = [.int .i64 (k : Int), .slice ba (recsB t.nx ((rs.map BS.l).take k)).length bc, .int .u64 ((t.nx + k : Nat) : Int)] ∧ row (.slice ba (recsB t.nx ((rs.map BS.l).take k)).length bc) 5 1 (bytesV (recsB t.nx ((rs.map BS.l).take k))) :: lblk lp p pre t :: lrow t :: DS.H p s H = H' ∧ k ≤ rs.length) (fun us => match us with | .int _ i :: _ => rs.length - i.toNat | _ => 0) ⟨0, none, 0, by rw [recs0]; rfl, rfl, by omega⟩ (fun w hw => by rw [recs0]; exact (Subs.st inferInstance w hw : St w0 (lblk lp p pre t :: lrow t :: DS.H p s H) w).addNilB 5) ?_
    rintro τ0 _ _  ⟨k, ba, bc, rfl, rfl, hk0⟩ _
    refine T_seq ?_
    refine T_region ?_
    refine TL_q (Qt_lss rfl rfl) rfl ?_
    refine TL_nil ?_
    refine X_then ?_
    refine T_seq ?_
    refine T_cond rfl (fun h35 => ?_) (fun h35 => ?_)
    ·
      have p35 := h35
      try simp only [decide_eq_true_eq, decide_eq_false_iff_not, Bool.not_eq_true', Bool.not_eq_false', Option.isNone_iff_eq_none, ne_eq, Decidable.not_not, Int.not_lt, Int.not_le] at p35
      have hk : k < rs.length := by omega
      refine T_skip ?_
      refine X_then ?_
      refine T_seq ?_
      refine T_block ?_
      refine T_seq ?_
      refine T_region ?_
      refine TL_q (Qt_indexR rfl rfl (by omega) (by simp; omega)) rfl ?_
      refine TL_q (Qt_loadR (.slice _ _ _) rfl (vals_get _ _ hk)) rfl ?_
      refine TL_q (Qt_assign (.slice _ _ _) rfl) rfl ?_
      refine TL_nil ?_
      refine X_then ?_
      refine T_seq ?_
      refine T_region ?_
      refine TL_q (Qt_move (.slice _ _ _) rfl) rfl ?_
      refine TL_q (Qt_move (.int .u64 _) rfl) rfl ?_
      refine TL_q (Qt_move (.slice _ _ _) rfl) rfl ?_
      have : RdB w0 H (.slice rs[k].a rs[k].l.length rs[k].c) rs[k].l := rke.get (List.getElem_mem hk)
      refine TL_e rfl (Ef_call (told_c (n := t.nx + k) (by omega) (b := rs[k]) (by have := hrl _ (List.getElem_mem hk); omega)) rfl (fun x41 => ?_))
      refine TL_e rfl (Ef_appendB (sv := .slice _ _ _) (xv := .slice _ _ _) (l := recsB t.nx ((rs.map BS.l).take k)) (l' := toldB (t.nx + k) rs[k].l) rfl rfl (by have h1 := recs_len t.nx rs k (by omega) (by omega) hrl; have h2 := (toldB_len (t.nx + k) (by omega) rs[k].l (by have := hrl _ (List.getElem_mem hk); omega)).1; have := hrl _ (List.getElem_mem hk); omega) rfl (fun a42 c42 => ?_))
      rw [show recsB t.nx ((rs.map BS.l).take k) ++ toldB (t.nx + k) rs[k].l = recsB t.nx ((rs.map BS.l).take (k + 1)) from recs_step hk]
      refine TL_q (Qt_assign (.slice _ _ _) rfl) rfl ?_
      refine TL_nil ?_
      refine X_then ?_
      refine T_region ?_
      refine TL_q (Qt_move (.int .u64 _) rfl) rfl ?_
      refine TL_q (Qt_val (Qt_addw rfl rfl) (congrArg (Value.int .u64) (show IntKind.u64.wrap (((t.nx + k : Nat) : Int) + 1) = ((t.nx + (k + 1) : Nat) : Int) from wrap_u64 (by omega) (by omega)))) rfl ?_
      refine TL_q (Qt_assign (.int .u64 _) rfl) rfl ?_
      refine TL_nil ?_
      refine X_block ?_
      refine X_then ?_
      refine T_region ?_
      first
        | refine TL_q (Qt_add rfl rfl (by omega) (by omega)) rfl ?_
        | refine TL_q (Qt_addw rfl rfl) rfl ?_
      refine TL_q (Qt_move (.int .i64 _) rfl) rfl ?_
      refine TL_nil ?_
      apply X_loop
      case ha => exact (by repeat (first | with_reducible exact agree_refl | refine agree_upd rfl ?_ | refine agree_mix rfl ?_ | refine agree_setAll rfl ?_))
      case hI => exact ⟨k + 1, a42, c42, rfl, rfl, by omega⟩
      case hm => exact by show rs.length - (k + 1 : Int).toNat < rs.length - (k : Int).toNat; omega
      case hH => exact (Subs.st inferInstance)
    ·
      have p35 := h35
      try simp only [decide_eq_true_eq, decide_eq_false_iff_not, Bool.not_eq_true', Bool.not_eq_false', Option.isNone_iff_eq_none, ne_eq, Decidable.not_not, Int.not_lt, Int.not_le] at p35
      have hkn : k = rs.length := by omega
      have htk : (rs.map BS.l).take k = (rs.map BS.l) := List.take_of_length_le (by simp; omega)
      rw [htk, hkn]
      have hbl := recsB_len (rs.map BS.l) t.nx (by simp; omega) (fun l hl => by obtain ⟨x, hx, rfl⟩ := List.mem_map.1 hl; exact hrl x hx)
      rw [List.length_map] at hbl
      refine T_exit ?_
      refine X_then_exit ?_
      refine X_loop_exit ?_
      refine X_block_exit ?_
      refine X_then ?_
      refine T_seq ?_
      refine T_seq ?_
      refine T_draw (row (.slice ba (recsB t.nx (rs.map BS.l)).length bc) 5 1 (bytesV (recsB t.nx (rs.map BS.l))) :: lblk lp p pre t :: lrow t :: H) [(0, true), (1, true), (2, true), (3, true), (4, true), (5, true), (7, true), (6, false), (8, false), (9, true)] (by kernel_rfl) (by kernel_rfl) rfl (by kernel_rfl) (Subs.st inferInstance) (fun hns0 => ?_)
      refine DL_q hns0 rfl (Qt_move (.pointer _) rfl) rfl ?_
      refine DL_q hns0 rfl (Qt_nilCheck rfl) rfl ?_
      refine DL_q hns0 rfl (Qt_fieldAddr 0 rfl rfl) rfl ?_
      refine DL_q hns0 rfl (Qt_load1 rfl) rfl ?_
      refine DL_q hns0 rfl (Qt_move (.pointer _) rfl) rfl ?_
      refine DL_q hns0 rfl (Qt_move (.int .i64 _) rfl) rfl ?_
      refine DL_q hns0 rfl (Qt_move (.slice _ _ _) rfl) rfl ?_
      refine DL_frontA (lblk lp p pre t) ?_
      refine DL_e rfl rfl (Ef_call (name_c (t := t) hp (i := 1) (by omega)) rfl (fun x52 => ⟨(Subs.st inferInstance), ?_⟩))
      refine DL_conv (fun w hw => (Subs.st inferInstance w hw : St w0 (DS.H p s (row (.slice ba (recsB t.nx (rs.map BS.l)).length bc) 5 1 (bytesV (recsB t.nx (rs.map BS.l))) :: lblk lp p pre t :: lrow t :: H)) w)) ?_
      refine DL_e rfl rfl (Ef_call (write_c (s := s) hok hM (by omega) (b := ⟨ba, bc, (recsB t.nx (rs.map BS.l))⟩) (by show (recsB t.nx (rs.map BS.l)).length ≤ 100000; omega) (by show (recsB t.nx (rs.map BS.l)).length ≤ K; omega)) rfl (fun x54 => ⟨(Subs.st inferInstance), ?_⟩))
      refine DL_pure (fun hw54 => ?_)
      refine DL_q hns0 rfl (Qt_assign (.int .i64 _) rfl) rfl ?_
      refine DL_nil ?_
      refine X_then ?_
      refine T_seq ?_
      refine T_region ?_
      refine TL_q (Qt_move (.int .i64 _) rfl) rfl ?_
      refine TL_q (Qt_neq rfl rfl) rfl ?_
      refine TL_nil ?_
      refine X_then ?_
      refine T_cond rfl (fun h56 => ?_) (fun h56 => ?_)
      ·
        have p56 := h56
        try simp only [decide_eq_true_eq, decide_eq_false_iff_not, Bool.not_eq_true', Bool.not_eq_false', Option.isNone_iff_eq_none, ne_eq, Decidable.not_not, Int.not_lt, Int.not_le] at p56
        refine T_seq ?_
        refine T_region ?_
        refine TL_q (Qt_move (.int .i64 _) rfl) rfl ?_
        refine TL_q (Qt_assign (.int .i64 _) rfl) rfl ?_
        refine TL_nil ?_
        refine X_then ?_
        refine T_ret ?_
        refine X_then_ret ?_
        have e2 : newN t.segs = 1 := if_pos hs
        exact X_ret (x54.1, t, x54.2) [_] Tryz.results41 ⟨rfl, trivial⟩ rfl (fun w hw => (Subs.st inferInstance w hw : St w0 (lblk lp p pre t :: lrow t :: DS.H p x54.1 H) w).addPure ⟨by rw [e2]; exact hw54, fun _ => rfl, fun h => absurd h p56⟩)
      ·
        have p56 := h56
        try simp only [decide_eq_true_eq, decide_eq_false_iff_not, Bool.not_eq_true', Bool.not_eq_false', Option.isNone_iff_eq_none, ne_eq, Decidable.not_not, Int.not_lt, Int.not_le] at p56
        refine T_skip ?_
        refine X_then ?_
        refine T_seq ?_
        refine T_region ?_
        refine TL_q (Qt_move (.pointer _) rfl) rfl ?_
        refine TL_q (Qt_move (.pointer _) rfl) rfl ?_
        refine TL_q (Qt_nilCheck rfl) rfl ?_
        refine TL_q (Qt_fieldAddr 2 rfl rfl) rfl ?_
        refine TL_q (Qt_load1 rfl) rfl ?_
        refine TL_q (Qt_move (.int .i64 _) rfl) rfl ?_
        refine TL_e rfl (Ef_sliceN (m := ([1] : List Nat).length) [.int .i64 ((1 : Nat) : Int)] (([1] : List Nat).flatMap encN) rfl rfl rfl rfl (by simp [Value.cells]) rfl rfl (fun a64 c64 => ?_))
        refine TL_e rfl (Ef_appendS encN (sv := .slice _ _ _) (xv := .slice _ _ _) (xs := t.segs) (ys := ([1] : List Nat)) (fun _ => rfl) (fun _ => rfl) rfl rfl (by simp; omega) rfl rfl (fun a65 c65 => ?_))
        refine TL_q (Qt_nilCheck rfl) rfl ?_
        refine TL_q (Qt_fieldAddr 2 rfl rfl) rfl ?_
        refine TL_n (Ef_store1 (.slice _ _ _) rfl rfl (?_))
        refine TL_nil ?_
        refine X_then ?_
        refine T_seq ?_
        refine T_region ?_
        refine TL_q (Qt_move (.pointer _) rfl) rfl ?_
        refine TL_q (Qt_move (.pointer _) rfl) rfl ?_
        refine TL_q (Qt_move (.slice _ _ _) rfl) rfl ?_
        refine TL_q (Qt_len_slice rfl Tryz.underlying30) rfl ?_
        refine TL_q (Qt_move (.int .u64 _) rfl) rfl ?_
        refine TL_q (Qt_nilCheck rfl) rfl ?_
        refine TL_q (Qt_fieldAddr 3 rfl rfl) rfl ?_
        refine TL_n (Ef_store1 (.int .i64 _) rfl rfl (?_))
        refine TL_q (Qt_nilCheck rfl) rfl ?_
        refine TL_q (Qt_fieldAddr 4 rfl rfl) rfl ?_
        refine TL_n (Ef_store1 (.int .u64 _) rfl rfl (?_))
        refine TL_nil ?_
        refine X_then ?_
        refine T_seq ?_
        refine T_region ?_
        refine TL_q (Qt_assign (.int .i64 _) rfl) rfl ?_
        refine TL_nil ?_
        refine X_then ?_
        refine T_ret ?_
        have e2 : newN t.segs = 1 := if_pos hs
        have h0 : x54.2 = 0 := by omega
        exact X_ret (x54.1, (⟨a65, c65, t.segs ++ [1], (recsB t.nx (rs.map BS.l)).length, t.nx + rs.length, t.bg⟩ : LS), x54.2) [_] Tryz.results41 ⟨rfl, trivial⟩ (by rw [h0]; rfl) (fun w hw => (Subs.st inferInstance w hw : St w0 (lblk lp p pre (⟨a65, c65, t.segs ++ [1], (recsB t.nx (rs.map BS.l)).length, t.nx + rs.length, t.bg⟩ : LS) :: lrow (⟨a65, c65, t.segs ++ [1], (recsB t.nx (rs.map BS.l)).length, t.nx + rs.length, t.bg⟩ : LS) :: DS.H p x54.1 H) w).addPure ⟨by rw [e2]; exact hw54, fun h => absurd h0 h, fun _ => ⟨by rw [e2], rfl, by rw [List.length_map], rfl⟩⟩)
set_option maxHeartbeats 1000000 in
theorem begin1_c {w0 : World} {H : List SA} {lp p : Nat} {pre : ByteArray} {t : LS} {s : DS} {M K : Nat} (hok : s.Ok M K) (hM : M ≤ 1000000) (hK : K ≤ 1000000000) (hK2 : 10000 ≤ K) (hp : pre.size ≤ 1000) (hsl : t.segs.length ≤ 1000) (hs : 0 < t.segs.length) (hlast : lastN t.segs < 99) {ra : Option Addr} {rc : Nat} {rs : List BS} [rk : RdC w0 H (.slice ra rs.length rc) 1 (rs.map BS.val)] [rke : RdE w0 H rs] (hr8 : rs.length ≤ 9) (hrl : ∀ x ∈ rs, x.l.length ≤ 1000) (hnx : t.nx ≤ 1000000) :
    CT Tryz.prog w0 (lblk lp p pre t :: lrow t :: DS.H p s H) 41 [.pointer (some ⟨lp, 0, none⟩), .slice ra rs.length rc] (α := DS × LS × Int) (fun y => .int .i64 y.2.2) (fun y => pu (BeginR pre s t (rs.map BS.l) y.1 y.2.1 y.2.2) :: lblk lp p pre y.2.1 :: lrow y.2.1 :: DS.H p y.1 H) := by
  refine CT_intro Tryz.func41 rfl Tryz.ntmps41 rfl ?_
  refine T_seq ?_
  refine T_region ?_
  refine TL_q (Qt_assign (.int .i64 _) rfl) rfl ?_
  refine TL_nil ?_
  refine X_then ?_
  refine T_seq ?_
  refine T_region ?_
  refine TL_q (Qt_assign (.int .i64 _) rfl) rfl ?_
  refine TL_nil ?_
  refine X_then ?_
  refine T_seq ?_
  refine T_seq ?_
  refine T_region ?_
  refine TL_q (Qt_move (.pointer _) rfl) rfl ?_
  refine TL_q (Qt_nilCheck rfl) rfl ?_
  refine TL_q (Qt_fieldAddr 2 rfl rfl) rfl ?_
  refine TL_q (Qt_load1 rfl) rfl ?_
  refine TL_q (Qt_len_slice rfl Tryz.underlying99) rfl ?_
  refine TL_q (Qt_assign (.int .i64 _) rfl) rfl ?_
  refine TL_nil ?_
  refine X_then ?_
  refine T_seq ?_
  refine T_region ?_
  refine TL_q (Qt_move (.int .i64 _) rfl) rfl ?_
  refine TL_q (Qt_gtr rfl rfl) rfl ?_
  refine TL_nil ?_
  refine X_then ?_
  refine T_cond rfl (fun h18 => ?_) (fun h18 => ?_)
  ·
    have p18 := h18
    try simp only [decide_eq_true_eq, decide_eq_false_iff_not, Bool.not_eq_true', Bool.not_eq_false', Option.isNone_iff_eq_none, ne_eq, Decidable.not_not, Int.not_lt, Int.not_le] at p18
    refine T_region ?_
    refine TL_q (Qt_move (.pointer _) rfl) rfl ?_
    refine TL_q (Qt_nilCheck rfl) rfl ?_
    refine TL_q (Qt_fieldAddr 2 rfl rfl) rfl ?_
    refine TL_q (Qt_load1 rfl) rfl ?_
    refine TL_q (Qt_move (.int .i64 _) rfl) rfl ?_
    first
      | refine TL_q (Qt_sub rfl rfl (by omega) (by omega)) rfl ?_
      | refine TL_q (Qt_subw rfl rfl) rfl ?_
    refine TL_q (Qt_indexR rfl rfl (by omega) (by rw [encN_len]; omega)) rfl ?_
    refine TL_q (Qt_loadR (.int .i64 ((lastN t.segs : Nat) : Int)) rfl (last_get hs)) rfl ?_
    first
      | refine TL_q (Qt_add rfl rfl (by omega) (by omega)) rfl ?_
      | refine TL_q (Qt_addw rfl rfl) rfl ?_
    refine TL_q (Qt_assign (.int .i64 _) rfl) rfl ?_
    refine TL_nil ?_
    refine X_then ?_
    refine T_seq ?_
    refine T_region ?_
    refine TL_q (Qt_assign (.slice _ _ _) rfl) rfl ?_
    refine TL_nil ?_
    refine X_then ?_
    refine T_seq ?_
    refine T_region ?_
    refine TL_q (Qt_move (.pointer _) rfl) rfl ?_
    refine TL_q (Qt_nilCheck rfl) rfl ?_
    refine TL_q (Qt_fieldAddr 4 rfl rfl) rfl ?_
    refine TL_q (Qt_load1 rfl) rfl ?_
    refine TL_q (Qt_assign (.int .u64 _) rfl) rfl ?_
    refine TL_nil ?_
    refine X_then ?_
    refine T_seq ?_
    refine T_seq ?_
    refine T_region ?_
    refine TL_q (Qt_move (.slice _ _ _) rfl) rfl ?_
    refine TL_q (Qt_len_slice rfl Tryz.underlying22) rfl ?_
    refine TL_q (Qt_move (.int .i64 _) rfl) rfl ?_
    refine TL_nil ?_
    refine X_then ?_
    refine T_block ?_
    refine T_loop [7, 8, 10, 34, 35, 36, 37, 38, 39, 40, 41, 42, 43, 44, 45] [34, 7, 8] (fun us H' => ∃ (k : Nat) (ba : Option Addr) (bc : Nat), us = [.int .i64 (k : Int), .slice ba (recsB t.nx ((rs.map BS.l).take k)).length bc, .int .u64 ((t.nx + k : Nat) : Int)] ∧ row (.slice ba (recsB t.nx ((rs.map BS.l).take k)).length bc) 5 1 (bytesV (recsB t.nx ((rs.map BS.l).take k))) :: lblk lp p pre t :: lrow t :: DS.H p s H = H' ∧ k ≤ rs.length) (fun us => match us with | .int _ i :: _ => rs.length - i.toNat | _ => 0) ⟨0, none, 0, by rw [recs0]; rfl, rfl, by omega⟩ (fun w hw => by rw [recs0]; exact (Subs.st inferInstance w hw : St w0 (lblk lp p pre t :: lrow t :: DS.H p s H) w).addNilB 5) ?_
    rintro τ0 _ _  ⟨k, ba, bc, rfl, rfl, hk0⟩ _
    refine T_seq ?_
    refine T_region ?_
    refine TL_q (Qt_lss rfl rfl) rfl ?_
    refine TL_nil ?_
    refine X_then ?_
    refine T_seq ?_
    refine T_cond rfl (fun h35 => ?_) (fun h35 => ?_)
    ·
      have p35 := h35
      try simp only [decide_eq_true_eq, decide_eq_false_iff_not, Bool.not_eq_true', Bool.not_eq_false', Option.isNone_iff_eq_none, ne_eq, Decidable.not_not, Int.not_lt, Int.not_le] at p35
      have hk : k < rs.length := by omega
      refine T_skip ?_
      refine X_then ?_
      refine T_seq ?_
      refine T_block ?_
      refine T_seq ?_
      refine T_region ?_
      refine TL_q (Qt_indexR rfl rfl (by omega) (by simp; omega)) rfl ?_
      refine TL_q (Qt_loadR (.slice _ _ _) rfl (vals_get _ _ hk)) rfl ?_
      refine TL_q (Qt_assign (.slice _ _ _) rfl) rfl ?_
      refine TL_nil ?_
      refine X_then ?_
      refine T_seq ?_
      refine T_region ?_
      refine TL_q (Qt_move (.slice _ _ _) rfl) rfl ?_
      refine TL_q (Qt_move (.int .u64 _) rfl) rfl ?_
      refine TL_q (Qt_move (.slice _ _ _) rfl) rfl ?_
      have : RdB w0 H (.slice rs[k].a rs[k].l.length rs[k].c) rs[k].l := rke.get (List.getElem_mem hk)
      refine TL_e rfl (Ef_call (told_c (n := t.nx + k) (by omega) (b := rs[k]) (by have := hrl _ (List.getElem_mem hk); omega)) rfl (fun x41 => ?_))
      refine TL_e rfl (Ef_appendB (sv := .slice _ _ _) (xv := .slice _ _ _) (l := recsB t.nx ((rs.map BS.l).take k)) (l' := toldB (t.nx + k) rs[k].l) rfl rfl (by have h1 := recs_len t.nx rs k (by omega) (by omega) hrl; have h2 := (toldB_len (t.nx + k) (by omega) rs[k].l (by have := hrl _ (List.getElem_mem hk); omega)).1; have := hrl _ (List.getElem_mem hk); omega) rfl (fun a42 c42 => ?_))
      rw [show recsB t.nx ((rs.map BS.l).take k) ++ toldB (t.nx + k) rs[k].l = recsB t.nx ((rs.map BS.l).take (k + 1)) from recs_step hk]
      refine TL_q (Qt_assign (.slice _ _ _) rfl) rfl ?_
      refine TL_nil ?_
      refine X_then ?_
      refine T_region ?_
      refine TL_q (Qt_move (.int .u64 _) rfl) rfl ?_
      refine TL_q (Qt_val (Qt_addw rfl rfl) (congrArg (Value.int .u64) (show IntKind.u64.wrap (((t.nx + k : Nat) : Int) + 1) = ((t.nx + (k + 1) : Nat) : Int) from wrap_u64 (by omega) (by omega)))) rfl ?_
      refine TL_q (Qt_assign (.int .u64 _) rfl) rfl ?_
      refine TL_nil ?_
      refine X_block ?_
      refine X_then ?_
      refine T_region ?_
      first
        | refine TL_q (Qt_add rfl rfl (by omega) (by omega)) rfl ?_
        | refine TL_q (Qt_addw rfl rfl) rfl ?_
      refine TL_q (Qt_move (.int .i64 _) rfl) rfl ?_
      refine TL_nil ?_
      apply X_loop
      case ha => exact (by repeat (first | with_reducible exact agree_refl | refine agree_upd rfl ?_ | refine agree_mix rfl ?_ | refine agree_setAll rfl ?_))
      case hI => exact ⟨k + 1, a42, c42, rfl, rfl, by omega⟩
      case hm => exact by show rs.length - (k + 1 : Int).toNat < rs.length - (k : Int).toNat; omega
      case hH => exact (Subs.st inferInstance)
    ·
      have p35 := h35
      try simp only [decide_eq_true_eq, decide_eq_false_iff_not, Bool.not_eq_true', Bool.not_eq_false', Option.isNone_iff_eq_none, ne_eq, Decidable.not_not, Int.not_lt, Int.not_le] at p35
      have hkn : k = rs.length := by omega
      have htk : (rs.map BS.l).take k = (rs.map BS.l) := List.take_of_length_le (by simp; omega)
      rw [htk, hkn]
      have hbl := recsB_len (rs.map BS.l) t.nx (by simp; omega) (fun l hl => by obtain ⟨x, hx, rfl⟩ := List.mem_map.1 hl; exact hrl x hx)
      rw [List.length_map] at hbl
      refine T_exit ?_
      refine X_then_exit ?_
      refine X_loop_exit ?_
      refine X_block_exit ?_
      refine X_then ?_
      refine T_seq ?_
      refine T_seq ?_
      refine T_draw (row (.slice ba (recsB t.nx (rs.map BS.l)).length bc) 5 1 (bytesV (recsB t.nx (rs.map BS.l))) :: lblk lp p pre t :: lrow t :: H) [(0, true), (1, true), (2, true), (3, true), (4, true), (5, true), (7, true), (6, false), (8, false), (9, true)] (by kernel_rfl) (by kernel_rfl) rfl (by kernel_rfl) (Subs.st inferInstance) (fun hns0 => ?_)
      refine DL_q hns0 rfl (Qt_move (.pointer _) rfl) rfl ?_
      refine DL_q hns0 rfl (Qt_nilCheck rfl) rfl ?_
      refine DL_q hns0 rfl (Qt_fieldAddr 0 rfl rfl) rfl ?_
      refine DL_q hns0 rfl (Qt_load1 rfl) rfl ?_
      refine DL_q hns0 rfl (Qt_move (.pointer _) rfl) rfl ?_
      refine DL_q hns0 rfl (Qt_move (.int .i64 _) rfl) rfl ?_
      refine DL_q hns0 rfl (Qt_move (.slice _ _ _) rfl) rfl ?_
      refine DL_frontA (lblk lp p pre t) ?_
      refine DL_e rfl rfl (Ef_call (name_c (t := t) hp (i := (lastN t.segs + 1)) (by omega)) rfl (fun x52 => ⟨(Subs.st inferInstance), ?_⟩))
      refine DL_conv (fun w hw => (Subs.st inferInstance w hw : St w0 (DS.H p s (row (.slice ba (recsB t.nx (rs.map BS.l)).length bc) 5 1 (bytesV (recsB t.nx (rs.map BS.l))) :: lblk lp p pre t :: lrow t :: H)) w)) ?_
      refine DL_e rfl rfl (Ef_call (write_c (s := s) hok hM (by omega) (b := ⟨ba, bc, (recsB t.nx (rs.map BS.l))⟩) (by show (recsB t.nx (rs.map BS.l)).length ≤ 100000; omega) (by show (recsB t.nx (rs.map BS.l)).length ≤ K; omega)) rfl (fun x54 => ⟨(Subs.st inferInstance), ?_⟩))
      refine DL_pure (fun hw54 => ?_)
      refine DL_q hns0 rfl (Qt_assign (.int .i64 _) rfl) rfl ?_
      refine DL_nil ?_
      refine X_then ?_
      refine T_seq ?_
      refine T_region ?_
      refine TL_q (Qt_move (.int .i64 _) rfl) rfl ?_
      refine TL_q (Qt_neq rfl rfl) rfl ?_
      refine TL_nil ?_
      refine X_then ?_
      refine T_cond rfl (fun h56 => ?_) (fun h56 => ?_)
      ·
        have p56 := h56
        try simp only [decide_eq_true_eq, decide_eq_false_iff_not, Bool.not_eq_true', Bool.not_eq_false', Option.isNone_iff_eq_none, ne_eq, Decidable.not_not, Int.not_lt, Int.not_le] at p56
        refine T_seq ?_
        refine T_region ?_
        refine TL_q (Qt_move (.int .i64 _) rfl) rfl ?_
        refine TL_q (Qt_assign (.int .i64 _) rfl) rfl ?_
        refine TL_nil ?_
        refine X_then ?_
        refine T_ret ?_
        refine X_then_ret ?_
        have e2 : newN t.segs = (lastN t.segs + 1) := if_neg (by omega)
        exact X_ret (x54.1, t, x54.2) [_] Tryz.results41 ⟨rfl, trivial⟩ rfl (fun w hw => (Subs.st inferInstance w hw : St w0 (lblk lp p pre t :: lrow t :: DS.H p x54.1 H) w).addPure ⟨by rw [e2]; exact hw54, fun _ => rfl, fun h => absurd h p56⟩)
      ·
        have p56 := h56
        try simp only [decide_eq_true_eq, decide_eq_false_iff_not, Bool.not_eq_true', Bool.not_eq_false', Option.isNone_iff_eq_none, ne_eq, Decidable.not_not, Int.not_lt, Int.not_le] at p56
        refine T_skip ?_
        refine X_then ?_
        refine T_seq ?_
        refine T_region ?_
        refine TL_q (Qt_move (.pointer _) rfl) rfl ?_
        refine TL_q (Qt_move (.pointer _) rfl) rfl ?_
        refine TL_q (Qt_nilCheck rfl) rfl ?_
        refine TL_q (Qt_fieldAddr 2 rfl rfl) rfl ?_
        refine TL_q (Qt_load1 rfl) rfl ?_
        refine TL_q (Qt_move (.int .i64 _) rfl) rfl ?_
        refine TL_e rfl (Ef_sliceN (m := ([(lastN t.segs + 1)] : List Nat).length) [.int .i64 (((lastN t.segs + 1) : Nat) : Int)] (([(lastN t.segs + 1)] : List Nat).flatMap encN) rfl rfl rfl rfl (by simp [Value.cells]) rfl rfl (fun a64 c64 => ?_))
        refine TL_e rfl (Ef_appendS encN (sv := .slice _ _ _) (xv := .slice _ _ _) (xs := t.segs) (ys := ([(lastN t.segs + 1)] : List Nat)) (fun _ => rfl) (fun _ => rfl) rfl rfl (by simp; omega) rfl rfl (fun a65 c65 => ?_))
        refine TL_q (Qt_nilCheck rfl) rfl ?_
        refine TL_q (Qt_fieldAddr 2 rfl rfl) rfl ?_
        refine TL_n (Ef_store1 (.slice _ _ _) rfl rfl (?_))
        refine TL_nil ?_
        refine X_then ?_
        refine T_seq ?_
        refine T_region ?_
        refine TL_q (Qt_move (.pointer _) rfl) rfl ?_
        refine TL_q (Qt_move (.pointer _) rfl) rfl ?_
        refine TL_q (Qt_move (.slice _ _ _) rfl) rfl ?_
        refine TL_q (Qt_len_slice rfl Tryz.underlying30) rfl ?_
        refine TL_q (Qt_move (.int .u64 _) rfl) rfl ?_
        refine TL_q (Qt_nilCheck rfl) rfl ?_
        refine TL_q (Qt_fieldAddr 3 rfl rfl) rfl ?_
        refine TL_n (Ef_store1 (.int .i64 _) rfl rfl (?_))
        refine TL_q (Qt_nilCheck rfl) rfl ?_
        refine TL_q (Qt_fieldAddr 4 rfl rfl) rfl ?_
        refine TL_n (Ef_store1 (.int .u64 _) rfl rfl (?_))
        refine TL_nil ?_
        refine X_then ?_
        refine T_seq ?_
        refine T_region ?_
        refine TL_q (Qt_assign (.int .i64 _) rfl) rfl ?_
        refine TL_nil ?_
        refine X_then ?_
        refine T_ret ?_
        have e2 : newN t.segs = (lastN t.segs + 1) := if_neg (by omega)
        have h0 : x54.2 = 0 := by omega
        exact X_ret (x54.1, (⟨a65, c65, t.segs ++ [(lastN t.segs + 1)], (recsB t.nx (rs.map BS.l)).length, t.nx + rs.length, t.bg⟩ : LS), x54.2) [_] Tryz.results41 ⟨rfl, trivial⟩ (by rw [h0]; rfl) (fun w hw => (Subs.st inferInstance w hw : St w0 (lblk lp p pre (⟨a65, c65, t.segs ++ [(lastN t.segs + 1)], (recsB t.nx (rs.map BS.l)).length, t.nx + rs.length, t.bg⟩ : LS) :: lrow (⟨a65, c65, t.segs ++ [(lastN t.segs + 1)], (recsB t.nx (rs.map BS.l)).length, t.nx + rs.length, t.bg⟩ : LS) :: DS.H p x54.1 H) w).addPure ⟨by rw [e2]; exact hw54, fun h => absurd h0 h, fun _ => ⟨by rw [e2], rfl, by rw [List.length_map], rfl⟩⟩)
  ·
    have p18 := h18
    try simp only [decide_eq_true_eq, decide_eq_false_iff_not, Bool.not_eq_true', Bool.not_eq_false', Option.isNone_iff_eq_none, ne_eq, Decidable.not_not, Int.not_lt, Int.not_le] at p18
    exact absurd p18 (by omega)
end Go.Proofs.YtgfbdcjamalhhaaGreatDoor
