/- The reference of disks: lists of files: find, without, with. -/
import Derived.Test.YtededghplnoajaaDn
namespace Go.Proofs.Ytededghplnoajaa
open Go.RowKit Go.Sx
set_option maxRecDepth 100000
set_option linter.unusedSimpArgs false
set_option linter.unusedVariables false
def keyB (n : ByteArray) : List UInt8 := n.data.toList
theorem keyB_inj {a b : ByteArray} (h : keyB a = keyB b) : a = b := by
  obtain ⟨⟨a⟩⟩ := a; obtain ⟨⟨b⟩⟩ := b
  simp only [keyB] at h; subst h; rfl
theorem gtr_bytes (a b : ByteArray) : (!(Op.bytesLess a.toList b.toList || a.toList == b.toList)) = decide (keyB b < keyB a) := by
  rw [bytesLess_eq, beq_bytes, Lib.toList_data, Lib.toList_data]
  show (!(decide (keyB a < keyB b) || decide (a = b))) = decide (keyB b < keyB a)
  by_cases h1 : keyB a < keyB b
  · have h2 : ¬ keyB b < keyB a := fun h2 => List.lt_irrefl _ (List.lt_trans h1 h2)
    simp [h1, h2]
  · by_cases h2 : a = b
    · subst h2; simp [List.lt_irrefl]
    · have h3 : keyB b < keyB a := by
        refine Decidable.byContradiction fun h3 => h2 (keyB_inj (List.le_antisymm (List.not_lt.1 h3) (List.not_lt.1 h1)))
      simp [h1, h2, h3]
theorem Qt_str_gtr {P : Program} {w0 : World} {σ : Env} {H : List SA} {d : Option Nat} {ty : TypeId} {pos : String} {aft : Array Edge} {g : Option (Nat × Bool)} {x y : Operand} {t t' : TypeId} {a b : ByteArray} (hx : ev σ x = .string a) (hy : ev σ y = .string b) : Qt P w0 H σ ⟨d, .binOp .gtr t x y t', ty, pos, aft, g⟩ (.bool (decide (keyB b < keyB a))) :=
  Qt_str_op hx hy (by simp only [Op.stringOp, gtr_bytes])
/-- A list of files, and where it lies. -/
structure FL where
  a : Option Addr
  c : Nat
  ls : List FileV
def FL.val (x : FL) : Value := .slice x.a x.ls.length x.c
def FileIn (fp : List Nat) (w : World) (x : FL) : Prop :=
  ∃ a n c, x.val = .slice a n c ∧ (x.ls.flatMap FileV.list).length = n * 2 ∧ n ≤ c ∧ c ≤ maxLen ∧ (0 < (x.ls.flatMap FileV.list).length → ∃ b o, a = some ⟨b, o, none⟩ ∧ b ∈ fp ∧ ∀ j u, (x.ls.flatMap FileV.list)[j]? = some u → w.cell? ⟨b, o + j, none⟩ = some u)
theorem FileIn.at {fp : List Nat} {w : World} {x : FL} (h : FileIn fp w x) : CellsAt w x.val 2 (x.ls.flatMap FileV.list) := by
  obtain ⟨a, n, c, h1, h2, h3, h4, h5⟩ := h
  exact ⟨a, n, c, h1, h2, h3, h4, fun h0 => let ⟨b, o, e1, _, e2⟩ := h5 h0; ⟨b, o, e1, e2⟩⟩
theorem FileIn.keep {fp fp' : List Nat} {w w' : World} {x : FL} (h : FileIn fp w x) (hs : ∀ b ∈ fp, b ∈ fp') (hb : ∀ b ∈ fp, w'.heap[b]? = w.heap[b]?) : FileIn fp' w' x := by
  obtain ⟨a, n, c, h1, h2, h3, h4, h5⟩ := h
  refine ⟨a, n, c, h1, h2, h3, h4, fun h0 => ?_⟩
  obtain ⟨b, o, e1, e2, e3⟩ := h5 h0
  refine ⟨b, o, e1, hs b e2, fun j u hj => ?_⟩
  rw [← e3 j u hj]
  simp only [World.cell?, hb b e2]
/-- Lists of files that lie there, to be read. -/
def flA (fp : List Nat) (ls : List FL) : SA := ⟨fp, fun w => ∀ x ∈ ls, FileIn fp w x, fun _ _ hb h x hx => (h x hx).keep (fun _ h => h) hb⟩
theorem St.flNil {w0 w : World} {H : List SA} (h : St w0 H w) : St w0 (flA [] [] :: H) w :=
  h.fresh rfl rfl rfl (Nat.le_refl _) (fun _ _ => rfl) (fun _ h => by cases h) (by simp [flA]) (by simp [flA])
theorem rowP.fileIn {x : FL} {e : TypeId} {w : World} (h : rowP x.val e 2 (x.ls.flatMap FileV.list) w) : FileIn (rowFp x.val) w x := by
  have hc := h.cells
  obtain ⟨a, n, c, hv, hl, hn, hc', ha, hx⟩ := h
  refine ⟨a, n, c, hv, hl, hn, hc', fun h0 => ?_⟩
  have hc0 : c ≠ 0 := by
    rintro rfl
    obtain rfl : n = 0 := by omega
    rw [hl] at h0; omega
  obtain ⟨g, cur, hg, hw, h1, h2⟩ := hx hc0
  obtain ⟨a', n', c', hv', -, -, -, hcell⟩ := hc
  obtain ⟨b, o, hb, hce⟩ := hcell h0
  rw [hv] at hv'
  simp only [Value.slice.injEq] at hv'
  subst hg
  have hb2 : (some (⟨g, 0, none⟩ : Addr)) = some ⟨b, o, none⟩ := hv'.1.trans hb
  simp only [Option.some.injEq, Addr.mk.injEq] at hb2
  refine ⟨g, 0, rfl, by rw [hv]; simp [rowFp, hc0], fun j u hj => ?_⟩
  have := hce j u hj
  rw [← hb2.1, ← hb2.2.1] at this
  exact this
theorem St.flAdd {w0 w : World} {H : List SA} {fp : List Nat} {fls : List FL} {x : FL} {e : TypeId} (h : St w0 (row (.slice x.a x.ls.length x.c) e 2 (x.ls.flatMap FileV.list) :: flA fp fls :: H) w) : St w0 (flA (rowFp x.val ++ fp) (x :: fls) :: H) w := by
  refine h.merge rfl fun h1 h2 y hy => ?_
  rcases List.mem_cons.1 hy with rfl | hy
  · exact (rowP.fileIn h1).keep (fun b hb => List.mem_append_left _ hb) (fun _ _ => rfl)
  · exact (h2 y hy).keep (fun b hb => List.mem_append_right _ hb) (fun _ _ => rfl)
theorem St.flJoin {w0 w : World} {H : List SA} {f1 f2 : List Nat} {l1 l2 : List FL} (h : St w0 (flA f1 l1 :: flA f2 l2 :: H) w) : St w0 (flA (f1 ++ f2) (l1 ++ l2) :: H) w := by
  refine h.merge rfl fun h1 h2 y hy => ?_
  rcases List.mem_append.1 hy with hy | hy
  · exact (h1 y hy).keep (fun b hb => List.mem_append_left _ hb) (fun _ _ => rfl)
  · exact (h2 y hy).keep (fun b hb => List.mem_append_right _ hb) (fun _ _ => rfl)
theorem St.eachJoin {w0 w : World} {H : List SA} {f1 f2 : List Nat} {l1 l2 : List BS} (h : St w0 (eachA f1 l1 :: eachA f2 l2 :: H) w) : St w0 (eachA (f1 ++ f2) (l1 ++ l2) :: H) w := by
  refine h.merge rfl fun h1 h2 y hy => ?_
  rcases List.mem_append.1 hy with hy | hy
  · exact (h1 y hy).keep (fun b hb => List.mem_append_left _ hb) (fun _ _ => rfl)
  · exact (h2 y hy).keep (fun b hb => List.mem_append_right _ hb) (fun _ _ => rfl)
theorem RdC.fl {w0 : World} {H : List SA} {fp : List Nat} {fls : List FL} {x : FL} (hx : x ∈ fls) : RdC w0 (flA fp fls :: H) (.slice x.a x.ls.length x.c) 2 (x.ls.flatMap FileV.list) := ⟨fun w hw => ((hw.holds (flA fp fls) (by simp)) x hx).at⟩
theorem RdE.sub {w0 : World} {H : List SA} {ls ms : List BS} (h : RdE w0 H ls) (hs : ∀ x ∈ ms, x ∈ ls) : RdE w0 H ms := ⟨fun x hx => h.rd x (hs x hx)⟩
/-- Of files what they hold. -/
def findC (L : List FileV) : Cont := fun k => (L.find? fun f => decide (f.name = k)).map (·.b.l)
def fndB (L : List FileV) (k : ByteArray) : BS := ((L.find? fun f => decide (f.name = k)).map (·.b)).getD zB
theorem fndB_l (L : List FileV) (k : ByteArray) : (fndB L k).l = (findC L k).getD [] := by
  unfold fndB findC; cases L.find? (fun f => decide (f.name = k)) <;> rfl
theorem fndB_mem (L : List FileV) (k : ByteArray) : fndB L k ∈ zB :: L.map (·.b) := by
  unfold fndB
  cases h : L.find? (fun f => decide (f.name = k)) with
  | none => simp
  | some f => exact List.mem_cons_of_mem _ (List.mem_map.2 ⟨f, List.mem_of_find?_eq_some h, rfl⟩)
theorem find_no {L : List FileV} {k : ByteArray} (h : ∀ (i : Nat) (hi : i < L.length), L[i].name ≠ k) : L.find? (fun f => decide (f.name = k)) = none := by
  rw [List.find?_eq_none]
  intro f hf
  obtain ⟨i, hi, rfl⟩ := List.getElem_of_mem hf
  simpa using h i hi
theorem find_yes {L : List FileV} {k : ByteArray} {j : Nat} (hj : j < L.length) (h : L[j].name = k) (hno : ∀ (i : Nat) (hi : i < L.length), i < j → L[i].name ≠ k) : L.find? (fun f => decide (f.name = k)) = some L[j] := by
  rw [List.find?_eq_some_iff_getElem]
  exact ⟨by simpa using h, j, hj, rfl, fun i hi => by simpa using hno i (by omega) hi⟩
def outV (L : List FileV) (k : ByteArray) : List FileV := L.filter fun f => decide (f.name ≠ k)
def wStep (nm : ByteArray) (b : BS) (s : List FileV × Bool) (f : FileV) : List FileV × Bool :=
  if f.name = nm then s else if s.2 = false ∧ keyB nm < keyB f.name then (s.1 ++ [⟨nm, b⟩] ++ [f], true) else (s.1 ++ [f], s.2)
def wEnd (nm : ByteArray) (b : BS) (s : List FileV × Bool) : List FileV := if s.2 = true then s.1 else s.1 ++ [⟨nm, b⟩]
def withV (L : List FileV) (nm : ByteArray) (b : BS) : List FileV := wEnd nm b (L.foldl (wStep nm b) ([], false))
def goV (nm : ByteArray) (b : BS) : Bool → List FileV → List FileV
  | true, L => outV L nm
  | false, [] => [⟨nm, b⟩]
  | false, f :: L => if f.name = nm then goV nm b false L else if keyB nm < keyB f.name then ⟨nm, b⟩ :: f :: outV L nm else f :: goV nm b false L
theorem wEnd_eq (nm : ByteArray) (b : BS) : ∀ (L : List FileV) (A : List FileV) (p : Bool), wEnd nm b (L.foldl (wStep nm b) (A, p)) = A ++ goV nm b p L
  | [], A, true => by simp [wEnd, goV, outV]
  | [], A, false => by simp [wEnd, goV]
  | f :: L, A, true => by
    rw [List.foldl_cons]
    by_cases h : f.name = nm
    · rw [show wStep nm b (A, true) f = (A, true) from if_pos h, wEnd_eq nm b L A true]; simp [goV, outV, h]
    · rw [show wStep nm b (A, true) f = (A ++ [f], true) from by unfold wStep; rw [if_neg h, if_neg (by simp)], wEnd_eq nm b L _ true]; simp [goV, outV, h]
  | f :: L, A, false => by
    rw [List.foldl_cons]
    by_cases h : f.name = nm
    · rw [show wStep nm b (A, false) f = (A, false) from if_pos h, wEnd_eq nm b L A false]; simp [goV, h]
    · by_cases h2 : keyB nm < keyB f.name
      · rw [show wStep nm b (A, false) f = (A ++ [⟨nm, b⟩] ++ [f], true) from by unfold wStep; rw [if_neg h, if_pos ⟨rfl, h2⟩], wEnd_eq nm b L _ true]; simp [goV, h, h2]
      · rw [show wStep nm b (A, false) f = (A ++ [f], false) from by unfold wStep; rw [if_neg h, if_neg (fun hh => h2 hh.2)], wEnd_eq nm b L _ false]; simp [goV, h, h2]
theorem withV_eq (L : List FileV) (nm : ByteArray) (b : BS) : withV L nm b = goV nm b false L := by rw [withV, wEnd_eq]; rfl
theorem wStep_len (nm : ByteArray) (b : BS) (L : List FileV) : ∀ s : List FileV × Bool, (L.foldl (wStep nm b) s).1.length ≤ s.1.length + 2 * L.length := by
  induction L with
  | nil => intro s; simp
  | cons f L ih =>
    intro s
    rw [List.foldl_cons]
    have h := ih (wStep nm b s f)
    have h2 : (wStep nm b s f).1.length ≤ s.1.length + 2 := by
      unfold wStep
      split
      · omega
      · split <;> simp
    simp only [List.length_cons]
    omega
theorem wStep_take (nm : ByteArray) (b : BS) (L : List FileV) (k : Nat) (hk : k < L.length) : (L.take (k + 1)).foldl (wStep nm b) ([], false) = wStep nm b ((L.take k).foldl (wStep nm b) ([], false)) L[k] := by
  rw [List.take_succ_eq_append_getElem hk, List.foldl_append]; rfl
theorem outV_take (L : List FileV) (nm : ByteArray) (k : Nat) (hk : k < L.length) : outV (L.take (k + 1)) nm = outV (L.take k) nm ++ (if L[k].name ≠ nm then [L[k]] else []) := by
  rw [List.take_succ_eq_append_getElem hk]
  unfold outV
  rw [List.filter_append]
  congr 1
  by_cases h : L[k].name = nm <;> simp [h]
theorem outV_le (L : List FileV) (nm : ByteArray) (k : Nat) : (outV (L.take k) nm).length ≤ k := by
  have h1 := List.length_filter_le (fun f : FileV => decide (f.name ≠ nm)) (L.take k)
  rw [List.length_take] at h1
  unfold outV; omega

set_option maxHeartbeats 1000000 in
theorem find_c {w0 : World} {H : List SA} {a : Option Addr} {L : List FileV} {c : Nat} [hr : RdC w0 H (.slice a L.length c) 2 (L.flatMap FileV.list)] (hn : L.length ≤ 1000000) {nm : ByteArray} :
    CT Try.prog w0 (H) 45 [.slice a L.length c, .string nm] (α := Unit) (fun _ => .tuple #[.slice (fndB L nm).a (fndB L nm).l.length (fndB L nm).c, .bool (findC L nm).isSome]) (fun _ => H) := by
  refine CT_intro Try.func45 rfl Try.ntmps45 rfl ?_
  refine T_seq ?_
  refine T_region ?_
  refine TL_q (Qt_assign (.slice _ _ _) rfl) rfl ?_
  refine TL_q (Qt_assign (.bool _) rfl) rfl ?_
  refine TL_nil ?_
  refine X_then ?_
  refine T_seq ?_
  refine T_seq ?_
  refine T_region ?_
  refine TL_q (Qt_assign (.int .i64 _) rfl) rfl ?_
  refine TL_nil ?_
  refine X_then ?_
  refine T_block ?_
  refine T_loop [4, 5, 6, 7, 8, 9, 10, 11, 12, 13, 14, 15, 16, 17, 18, 19, 20, 21, 22, 23, 24] [6] (fun us H' => ∃ (k : Nat), us = [.int .i64 (k : Int)] ∧ H = H' ∧ k ≤ L.length ∧ (∀ (i : Nat) (hi : i < L.length), i < k → L[i].name ≠ nm)) (fun us => match us with | .int _ i :: _ => L.length - i.toNat | _ => 0) ⟨0, rfl, rfl, by omega, fun i hi h => by omega⟩ (Subs.st inferInstance) ?_
  rintro τ0 _ _  ⟨k, rfl, rfl, hk0, hno⟩ _
  refine T_seq ?_
  refine T_seq ?_
  refine T_region ?_
  refine TL_q (Qt_move (.int .i64 _) rfl) rfl ?_
  refine TL_q (Qt_move (.slice _ _ _) rfl) rfl ?_
  refine TL_q (Qt_len_slice rfl Try.underlying50) rfl ?_
  refine TL_q (Qt_lss rfl rfl) rfl ?_
  refine TL_nil ?_
  refine X_then ?_
  refine T_cond rfl (fun h10 => ?_) (fun h10 => ?_)
  ·
    have p10 := h10
    try simp only [decide_eq_true_eq, decide_eq_false_iff_not, Bool.not_eq_true', Bool.not_eq_false', Option.isNone_iff_eq_none, ne_eq, Decidable.not_not, Int.not_lt, Int.not_le] at p10
    have hk : k < L.length := by omega
    refine T_skip ?_
    refine X_then ?_
    refine T_seq ?_
    refine T_block ?_
    refine T_seq ?_
    refine T_region ?_
    refine TL_q (Qt_move (.slice _ _ _) rfl) rfl ?_
    refine TL_q (Qt_move (.int .i64 _) rfl) rfl ?_
    refine TL_q (Qt_indexN rfl rfl (by omega) (by omega)) rfl ?_
    refine TL_q (Qt_fieldR rfl 2 (file_pos hk)) rfl ?_
    refine TL_q (Qt_loadRs 2 (.string _) rfl (file_get L k 0 hk (by decide) inferInstance)) rfl ?_
    refine TL_q (Qt_move (.string _) rfl) rfl ?_
    refine TL_q (Qt_str_eql rfl rfl) rfl ?_
    refine TL_nil ?_
    refine X_then ?_
    refine T_cond rfl (fun h19 => ?_) (fun h19 => ?_)
    ·
      have p19 := h19
      try simp only [decide_eq_true_eq, decide_eq_false_iff_not, Bool.not_eq_true', Bool.not_eq_false', Option.isNone_iff_eq_none, ne_eq, Decidable.not_not, Int.not_lt, Int.not_le] at p19
      refine T_seq ?_
      refine T_region ?_
      refine TL_q (Qt_move (.slice _ _ _) rfl) rfl ?_
      refine TL_q (Qt_move (.int .i64 _) rfl) rfl ?_
      refine TL_q (Qt_indexN rfl rfl (by omega) (by omega)) rfl ?_
      refine TL_q (Qt_fieldR rfl 2 (file_pos hk)) rfl ?_
      refine TL_q (Qt_loadRs 2 (.slice _ _ _) rfl (file_get L k 1 hk (by decide) inferInstance)) rfl ?_
      refine TL_q (Qt_assign (.slice _ _ _) rfl) rfl ?_
      refine TL_q (Qt_assign (.bool _) rfl) rfl ?_
      refine TL_nil ?_
      refine X_then ?_
      refine T_ret ?_
      refine X_block_ret ?_
      refine X_then_ret ?_
      refine X_loop_ret ?_
      refine X_block_ret ?_
      refine X_then_ret ?_
      have hf := find_yes hk (by simpa using h19) hno
      have e1 : fndB L nm = L[k].b := by unfold fndB; rw [hf]; rfl
      have e2 : (findC L nm).isSome = true := by unfold findC; rw [hf]; rfl
      exact X_ret () [_, _] Try.results45 ⟨rfl, rfl, trivial⟩ (by rw [e1, e2]; rfl) (Subs.st inferInstance)
    ·
      have p19 := h19
      try simp only [decide_eq_true_eq, decide_eq_false_iff_not, Bool.not_eq_true', Bool.not_eq_false', Option.isNone_iff_eq_none, ne_eq, Decidable.not_not, Int.not_lt, Int.not_le] at p19
      refine T_skip ?_
      refine X_block ?_
      refine X_then ?_
      refine T_region ?_
      refine TL_q (Qt_move (.int .i64 _) rfl) rfl ?_
      first
        | refine TL_q (Qt_add rfl rfl (by omega) (by omega)) rfl ?_
        | refine TL_q (Qt_addw rfl rfl) rfl ?_
      refine TL_q (Qt_assign (.int .i64 _) rfl) rfl ?_
      refine TL_nil ?_
      apply X_loop
      case ha => exact (by repeat (first | with_reducible exact agree_refl | refine agree_upd rfl ?_ | refine agree_mix rfl ?_ | refine agree_setAll rfl ?_))
      case hI => exact ⟨k + 1, rfl, rfl, by omega, fun i hi h => by rcases Nat.lt_or_ge i k with h1 | h1; exact hno i hi h1; obtain rfl : i = k := (by omega); simpa using h19⟩
      case hm => exact by show L.length - (k + 1 : Int).toNat < L.length - (k : Int).toNat; omega
      case hH => exact (Subs.st inferInstance)
  ·
    have p10 := h10
    try simp only [decide_eq_true_eq, decide_eq_false_iff_not, Bool.not_eq_true', Bool.not_eq_false', Option.isNone_iff_eq_none, ne_eq, Decidable.not_not, Int.not_lt, Int.not_le] at p10
    refine T_exit ?_
    refine X_then_exit ?_
    refine X_loop_exit ?_
    refine X_block_exit ?_
    refine X_then ?_
    refine T_seq ?_
    refine T_region ?_
    refine TL_q (Qt_assign (.slice _ _ _) rfl) rfl ?_
    refine TL_q (Qt_assign (.bool _) rfl) rfl ?_
    refine TL_nil ?_
    refine X_then ?_
    refine T_ret ?_
    have hf := find_no (fun i hi => hno i hi (by omega))
    have e1 : fndB L nm = zB := by unfold fndB; rw [hf]; rfl
    have e2 : (findC L nm).isSome = false := by unfold findC; rw [hf]; rfl
    exact X_ret () [_, _] Try.results45 ⟨rfl, rfl, trivial⟩ (by rw [e1, e2]; rfl) (Subs.st inferInstance)
set_option maxHeartbeats 1000000 in
theorem without_c {w0 : World} {H : List SA} {a : Option Addr} {L : List FileV} {c : Nat} [hr : RdC w0 H (.slice a L.length c) 2 (L.flatMap FileV.list)] (hn : L.length ≤ 1000000) {nm : ByteArray} :
    CT Try.prog w0 (H) 55 [.slice a L.length c, .string nm] (α := AC) (fun y => .slice y.a (outV L nm).length y.c) (fun y => row (.slice y.a (outV L nm).length y.c) 81 2 ((outV L nm).flatMap FileV.list) :: H) := by
  refine CT_intro Try.func55 rfl Try.ntmps55 rfl ?_
  refine T_seq ?_
  refine T_region ?_
  refine TL_q (Qt_assign (.slice _ _ _) rfl) rfl ?_
  refine TL_nil ?_
  refine X_then ?_
  refine T_seq ?_
  refine T_region ?_
  refine TL_q (Qt_assign (.slice _ _ _) rfl) rfl ?_
  refine TL_nil ?_
  refine X_then ?_
  refine T_seq ?_
  refine T_seq ?_
  refine T_region ?_
  refine TL_q (Qt_assign (.int .i64 _) rfl) rfl ?_
  refine TL_nil ?_
  refine X_then ?_
  refine T_block ?_
  refine T_loop [5, 6, 7, 8, 9, 10, 11, 12, 13, 14, 15, 16, 17, 18, 19, 20, 21, 22, 23, 24, 25, 26] [6, 5] (fun us H' => ∃ (k : Nat) (a2 : Option Addr) (c2 : Nat) (M : List FileV), us = [.int .i64 (k : Int), .slice a2 M.length c2] ∧ row (.slice a2 (M).length c2) 81 2 ((M).flatMap FileV.list) :: H = H' ∧ k ≤ L.length ∧ (M = outV (L.take k) nm)) (fun us => match us with | .int _ i :: _ => L.length - i.toNat | _ => 0) ⟨0, none, 0, [], rfl, rfl, by omega, rfl⟩ (fun w hw => hw.addNil 81 2) ?_
  rintro τ0 _ _  ⟨k, a2, c2, M, rfl, rfl, hk0, hM⟩ _
  refine T_seq ?_
  refine T_seq ?_
  refine T_region ?_
  refine TL_q (Qt_move (.int .i64 _) rfl) rfl ?_
  refine TL_q (Qt_move (.slice _ _ _) rfl) rfl ?_
  refine TL_q (Qt_len_slice rfl Try.underlying50) rfl ?_
  refine TL_q (Qt_lss rfl rfl) rfl ?_
  refine TL_nil ?_
  refine X_then ?_
  refine T_cond rfl (fun h10 => ?_) (fun h10 => ?_)
  ·
    have p10 := h10
    try simp only [decide_eq_true_eq, decide_eq_false_iff_not, Bool.not_eq_true', Bool.not_eq_false', Option.isNone_iff_eq_none, ne_eq, Decidable.not_not, Int.not_lt, Int.not_le] at p10
    have hk : k < L.length := by omega
    have hst := outV_take L nm k hk
    have hle := outV_le L nm k
    rw [← hM] at hle
    refine T_skip ?_
    refine X_then ?_
    refine T_seq ?_
    refine T_block ?_
    refine T_seq ?_
    refine T_region ?_
    refine TL_q (Qt_move (.slice _ _ _) rfl) rfl ?_
    refine TL_q (Qt_move (.int .i64 _) rfl) rfl ?_
    refine TL_q (Qt_indexN rfl rfl (by omega) (by omega)) rfl ?_
    refine TL_q (Qt_fieldR rfl 2 (file_pos hk)) rfl ?_
    refine TL_q (Qt_loadRs 2 (.string _) rfl (file_get L k 0 hk (by decide) inferInstance)) rfl ?_
    refine TL_q (Qt_move (.string _) rfl) rfl ?_
    refine TL_q (Qt_str_neq rfl rfl) rfl ?_
    refine TL_nil ?_
    refine X_then ?_
    refine T_cond rfl (fun h19 => ?_) (fun h19 => ?_)
    ·
      have p19 := h19
      try simp only [decide_eq_true_eq, decide_eq_false_iff_not, Bool.not_eq_true', Bool.not_eq_false', Option.isNone_iff_eq_none, ne_eq, Decidable.not_not, Int.not_lt, Int.not_le] at p19
      rw [if_pos (by simpa using h19)] at hst
      refine T_region ?_
      refine TL_q (Qt_move (.slice _ _ _) rfl) rfl ?_
      refine TL_q (Qt_move (.slice _ _ _) rfl) rfl ?_
      refine TL_q (Qt_move (.int .i64 _) rfl) rfl ?_
      refine TL_q (Qt_indexN rfl rfl (by omega) (by omega)) rfl ?_
      refine TL_q (Qt_val (Qt_loadRN 2 L[k].list rfl (flat_slice _ 2 FileV.list_len L k hk) (FileV.list_len _) (by decide)) (show Value.agg L[k].list.toArray = Value.agg L[k].cells from rfl)) rfl ?_
      refine TL_e rfl (Ef_sliceN (m := ([L[k]] : List FileV).length) [.agg (L[k]).cells] (([L[k]] : List FileV).flatMap FileV.list) rfl rfl rfl rfl (by simp [Value.cells, FileV.size]) rfl rfl (fun a25 c25 => ?_))
      refine TL_e rfl (Ef_appendS FileV.list (sv := .slice _ _ _) (xv := .slice _ _ _) (xs := M) (ys := [L[k]]) FileV.list_len FileV.list_one rfl rfl (by simp; omega) rfl rfl (fun a26 c26 => ?_))
      refine TL_q (Qt_assign (.slice _ _ _) rfl) rfl ?_
      refine TL_nil ?_
      refine X_block ?_
      refine X_then ?_
      refine T_region ?_
      refine TL_q (Qt_move (.int .i64 _) rfl) rfl ?_
      first
        | refine TL_q (Qt_add rfl rfl (by omega) (by omega)) rfl ?_
        | refine TL_q (Qt_addw rfl rfl) rfl ?_
      refine TL_q (Qt_assign (.int .i64 _) rfl) rfl ?_
      refine TL_nil ?_
      apply X_loop
      case ha => exact (by repeat (first | with_reducible exact agree_refl | refine agree_upd rfl ?_ | refine agree_mix rfl ?_ | refine agree_setAll rfl ?_))
      case hI => exact by first | exact ⟨k + 1, a26, c26, M ++ [L[k]], rfl, rfl, by omega, by rw [hst, hM]⟩ | exact ⟨k + 1, a2, c2, M, rfl, rfl, by omega, by rw [hst, hM]⟩
      case hm => exact by show L.length - (k + 1 : Int).toNat < L.length - (k : Int).toNat; omega
      case hH => exact (Subs.st inferInstance)
    ·
      have p19 := h19
      try simp only [decide_eq_true_eq, decide_eq_false_iff_not, Bool.not_eq_true', Bool.not_eq_false', Option.isNone_iff_eq_none, ne_eq, Decidable.not_not, Int.not_lt, Int.not_le] at p19
      rw [if_neg (by simpa using h19), List.append_nil] at hst
      refine T_skip ?_
      refine X_block ?_
      refine X_then ?_
      refine T_region ?_
      refine TL_q (Qt_move (.int .i64 _) rfl) rfl ?_
      first
        | refine TL_q (Qt_add rfl rfl (by omega) (by omega)) rfl ?_
        | refine TL_q (Qt_addw rfl rfl) rfl ?_
      refine TL_q (Qt_assign (.int .i64 _) rfl) rfl ?_
      refine TL_nil ?_
      apply X_loop
      case ha => exact (by repeat (first | with_reducible exact agree_refl | refine agree_upd rfl ?_ | refine agree_mix rfl ?_ | refine agree_setAll rfl ?_))
      case hI => exact by first | exact ⟨k + 1, a26, c26, M ++ [L[k]], rfl, rfl, by omega, by rw [hst, hM]⟩ | exact ⟨k + 1, a2, c2, M, rfl, rfl, by omega, by rw [hst, hM]⟩
      case hm => exact by show L.length - (k + 1 : Int).toNat < L.length - (k : Int).toNat; omega
      case hH => exact (Subs.st inferInstance)
  ·
    have p10 := h10
    try simp only [decide_eq_true_eq, decide_eq_false_iff_not, Bool.not_eq_true', Bool.not_eq_false', Option.isNone_iff_eq_none, ne_eq, Decidable.not_not, Int.not_lt, Int.not_le] at p10
    have et : L.take k = L := List.take_of_length_le (by omega)
    rw [et] at hM
    subst hM
    refine T_exit ?_
    refine X_then_exit ?_
    refine X_loop_exit ?_
    refine X_block_exit ?_
    refine X_then ?_
    refine T_seq ?_
    refine T_region ?_
    refine TL_q (Qt_move (.slice _ _ _) rfl) rfl ?_
    refine TL_q (Qt_assign (.slice _ _ _) rfl) rfl ?_
    refine TL_nil ?_
    refine X_then ?_
    refine T_ret ?_
    exact X_ret ⟨a2, c2⟩ [_] Try.results55 ⟨rfl, trivial⟩ rfl (Subs.st inferInstance)
set_option maxHeartbeats 1000000 in
theorem with_c {w0 : World} {H : List SA} {a : Option Addr} {L : List FileV} {c : Nat} [hr : RdC w0 H (.slice a L.length c) 2 (L.flatMap FileV.list)] (hn : L.length ≤ 1000000) {nm : ByteArray} {b : BS} :
    CT Try.prog w0 (H) 53 [.slice a L.length c, .string nm, .slice b.a b.l.length b.c] (α := AC) (fun y => .slice y.a (withV L nm b).length y.c) (fun y => row (.slice y.a (withV L nm b).length y.c) 81 2 ((withV L nm b).flatMap FileV.list) :: H) := by
  refine CT_intro Try.func53 rfl Try.ntmps53 rfl ?_
  refine T_seq ?_
  refine T_region ?_
  refine TL_q (Qt_assign (.slice _ _ _) rfl) rfl ?_
  refine TL_nil ?_
  refine X_then ?_
  refine T_seq ?_
  refine T_region ?_
  refine TL_q (Qt_assign (.slice _ _ _) rfl) rfl ?_
  refine TL_nil ?_
  refine X_then ?_
  refine T_seq ?_
  refine T_region ?_
  refine TL_q (Qt_assign (.bool _) rfl) rfl ?_
  refine TL_nil ?_
  refine X_then ?_
  refine T_seq ?_
  refine T_seq ?_
  refine T_region ?_
  refine TL_q (Qt_assign (.int .i64 _) rfl) rfl ?_
  refine TL_nil ?_
  refine X_then ?_
  refine T_block ?_
  refine T_loop [7, 8, 9, 10, 11, 12, 13, 14, 15, 16, 17, 18, 19, 20, 21, 22, 23, 24, 25, 26, 27, 28, 29, 30, 31, 32, 33, 34, 35, 36, 37, 38, 39, 40, 41, 42, 43, 44, 45, 46] [9, 7, 8] (fun us H' => ∃ (k : Nat) (a2 : Option Addr) (c2 : Nat) (M : List FileV) (p : Bool), us = [.int .i64 (k : Int), .slice a2 M.length c2, .bool p] ∧ row (.slice a2 (M).length c2) 81 2 ((M).flatMap FileV.list) :: H = H' ∧ k ≤ L.length ∧ ((M, p) = ((L.take k).foldl (wStep nm b) ([], false)))) (fun us => match us with | .int _ i :: _ => L.length - i.toNat | _ => 0) ⟨0, none, 0, [], false, rfl, rfl, by omega, rfl⟩ (fun w hw => hw.addNil 81 2) ?_
  rintro τ0 _ _  ⟨k, a2, c2, M, p, rfl, rfl, hk0, hW⟩ _
  refine T_seq ?_
  refine T_seq ?_
  refine T_region ?_
  refine TL_q (Qt_move (.int .i64 _) rfl) rfl ?_
  refine TL_q (Qt_move (.slice _ _ _) rfl) rfl ?_
  refine TL_q (Qt_len_slice rfl Try.underlying50) rfl ?_
  refine TL_q (Qt_lss rfl rfl) rfl ?_
  refine TL_nil ?_
  refine X_then ?_
  refine T_cond rfl (fun h13 => ?_) (fun h13 => ?_)
  ·
    have p13 := h13
    try simp only [decide_eq_true_eq, decide_eq_false_iff_not, Bool.not_eq_true', Bool.not_eq_false', Option.isNone_iff_eq_none, ne_eq, Decidable.not_not, Int.not_lt, Int.not_le] at p13
    have hk : k < L.length := by omega
    have hst := wStep_take nm b L k hk
    rw [← hW] at hst
    have hle := wStep_len nm b (L.take k) ([], false)
    rw [← hW, List.length_take] at hle
    simp only [List.length_nil] at hle
    refine T_skip ?_
    refine X_then ?_
    refine T_seq ?_
    refine T_block ?_
    refine T_seq ?_
    refine T_seq ?_
    refine T_region ?_
    refine TL_q (Qt_move (.slice _ _ _) rfl) rfl ?_
    refine TL_q (Qt_move (.int .i64 _) rfl) rfl ?_
    refine TL_q (Qt_indexN rfl rfl (by omega) (by omega)) rfl ?_
    refine TL_q (Qt_fieldR rfl 2 (file_pos hk)) rfl ?_
    refine TL_q (Qt_loadRs 2 (.string _) rfl (file_get L k 0 hk (by decide) inferInstance)) rfl ?_
    refine TL_q (Qt_move (.string _) rfl) rfl ?_
    refine TL_q (Qt_str_eql rfl rfl) rfl ?_
    refine TL_nil ?_
    refine X_then ?_
    refine T_cond rfl (fun h22 => ?_) (fun h22 => ?_)
    ·
      have p22 := h22
      try simp only [decide_eq_true_eq, decide_eq_false_iff_not, Bool.not_eq_true', Bool.not_eq_false', Option.isNone_iff_eq_none, ne_eq, Decidable.not_not, Int.not_lt, Int.not_le] at p22
      have hw : wStep nm b (M, p) L[k] = (M, p) := if_pos (by simpa using h22)
      refine T_exit ?_
      refine X_then_exit ?_
      refine X_block_exit ?_
      refine X_then ?_
      refine T_region ?_
      refine TL_q (Qt_move (.int .i64 _) rfl) rfl ?_
      first
        | refine TL_q (Qt_add rfl rfl (by omega) (by omega)) rfl ?_
        | refine TL_q (Qt_addw rfl rfl) rfl ?_
      refine TL_q (Qt_assign (.int .i64 _) rfl) rfl ?_
      refine TL_nil ?_
      apply X_loop
      case ha => exact (by repeat (first | with_reducible exact agree_refl | refine agree_upd rfl ?_ | refine agree_mix rfl ?_ | refine agree_setAll rfl ?_))
      case hI => exact by first | exact ⟨k + 1, a2, c2, M, p, rfl, rfl, by omega, (hst.trans hw).symm⟩ | exact ⟨k + 1, a46, c46, M ++ [(FileV.mk nm b)] ++ [L[k]], true, rfl, rfl, by omega, (hst.trans hw).symm⟩ | exact ⟨k + 1, a46, c46, M ++ [L[k]], p, rfl, rfl, by omega, (hst.trans hw).symm⟩
      case hm => exact by show L.length - (k + 1 : Int).toNat < L.length - (k : Int).toNat; omega
      case hH => exact (Subs.st inferInstance)
    ·
      have p22 := h22
      try simp only [decide_eq_true_eq, decide_eq_false_iff_not, Bool.not_eq_true', Bool.not_eq_false', Option.isNone_iff_eq_none, ne_eq, Decidable.not_not, Int.not_lt, Int.not_le] at p22
      refine T_skip ?_
      refine X_then ?_
      refine T_seq ?_
      refine T_seq ?_
      refine T_region ?_
      refine TL_q (Qt_move (.bool _) rfl) rfl ?_
      refine TL_q (Qt_not rfl) rfl ?_
      refine TL_q (Qt_move (.bool _) rfl) rfl ?_
      refine TL_split 25 rfl (fun h25 => ?_) (fun h25 => ?_)
      ·
        have p25 := h25
        try simp only [decide_eq_true_eq, decide_eq_false_iff_not, Bool.not_eq_true', Bool.not_eq_false', Option.isNone_iff_eq_none, ne_eq, Decidable.not_not, Int.not_lt, Int.not_le] at p25
        refine TL_take rfl rfl h25 ?_
        refine TL_q (Qt_move (.slice _ _ _) rfl) rfl ?_
        refine TL_take rfl rfl h25 ?_
        refine TL_q (Qt_move (.int .i64 _) rfl) rfl ?_
        refine TL_take rfl rfl h25 ?_
        refine TL_q (Qt_indexN rfl rfl (by omega) (by omega)) rfl ?_
        refine TL_take rfl rfl h25 ?_
        refine TL_q (Qt_fieldR rfl 2 (file_pos hk)) rfl ?_
        refine TL_take rfl rfl h25 ?_
        refine TL_q (Qt_loadRs 2 (.string _) rfl (file_get L k 0 hk (by decide) inferInstance)) rfl ?_
        refine TL_take rfl rfl h25 ?_
        refine TL_q (Qt_move (.string _) rfl) rfl ?_
        refine TL_take rfl rfl h25 ?_
        refine TL_q (Qt_str_gtr rfl rfl) rfl ?_
        refine TL_q (Qt_pick_t (.bool _) rfl h25 rfl) rfl ?_
        refine TL_nil ?_
        refine X_then ?_
        refine T_cond rfl (fun h33 => ?_) (fun h33 => ?_)
        ·
          have p33 := h33
          try simp only [decide_eq_true_eq, decide_eq_false_iff_not, Bool.not_eq_true', Bool.not_eq_false', Option.isNone_iff_eq_none, ne_eq, Decidable.not_not, Int.not_lt, Int.not_le] at p33
          have hw : wStep nm b (M, p) L[k] = (M ++ [(FileV.mk nm b)] ++ [L[k]], true) := by unfold wStep; rw [if_neg (by simpa using h22), if_pos ⟨by first | (simpa using h25) | (simp_all; done), by first | (simpa using h33) | (simp_all; done)⟩]
          refine T_seq ?_
          refine T_region ?_
          refine TL_q (Qt_move (.slice _ _ _) rfl) rfl ?_
          refine TL_q (Qt_move (.string _) rfl) rfl ?_
          refine TL_q (Qt_move (.slice _ _ _) rfl) rfl ?_
          refine TL_q (Qt_build [(0, (.string _)), (1, .slice _ _ _)] rfl (by kernel_rfl)) rfl ?_
          refine TL_e rfl (Ef_sliceN (m := ([(FileV.mk nm b)] : List FileV).length) [.agg ((FileV.mk nm b)).cells] (([(FileV.mk nm b)] : List FileV).flatMap FileV.list) rfl rfl rfl rfl (by simp [Value.cells, FileV.size]) rfl rfl (fun a38 c38 => ?_))
          refine TL_e rfl (Ef_appendS FileV.list (sv := .slice _ _ _) (xv := .slice _ _ _) (xs := M) (ys := [(FileV.mk nm b)]) FileV.list_len FileV.list_one rfl rfl (by simp; omega) rfl rfl (fun a39 c39 => ?_))
          refine TL_q (Qt_assign (.slice _ _ _) rfl) rfl ?_
          refine TL_nil ?_
          refine X_then ?_
          refine T_region ?_
          refine TL_q (Qt_assign (.bool _) rfl) rfl ?_
          refine TL_nil ?_
          refine X_then ?_
          refine T_region ?_
          refine TL_q (Qt_move (.slice _ _ _) rfl) rfl ?_
          refine TL_q (Qt_move (.slice _ _ _) rfl) rfl ?_
          refine TL_q (Qt_move (.int .i64 _) rfl) rfl ?_
          refine TL_q (Qt_indexN rfl rfl (by omega) (by omega)) rfl ?_
          refine TL_q (Qt_val (Qt_loadRN 2 L[k].list rfl (flat_slice _ 2 FileV.list_len L k hk) (FileV.list_len _) (by decide)) (show Value.agg L[k].list.toArray = Value.agg L[k].cells from rfl)) rfl ?_
          refine TL_e rfl (Ef_sliceN (m := ([L[k]] : List FileV).length) [.agg (L[k]).cells] (([L[k]] : List FileV).flatMap FileV.list) rfl rfl rfl rfl (by simp [Value.cells, FileV.size]) rfl rfl (fun a45 c45 => ?_))
          refine TL_e rfl (Ef_appendS FileV.list (sv := .slice _ _ _) (xv := .slice _ _ _) (ys := [L[k]]) FileV.list_len FileV.list_one rfl rfl (by simp; omega) rfl rfl (fun a46 c46 => ?_))
          refine TL_q (Qt_assign (.slice _ _ _) rfl) rfl ?_
          refine TL_nil ?_
          refine X_block ?_
          refine X_then ?_
          refine T_region ?_
          refine TL_q (Qt_move (.int .i64 _) rfl) rfl ?_
          first
            | refine TL_q (Qt_add rfl rfl (by omega) (by omega)) rfl ?_
            | refine TL_q (Qt_addw rfl rfl) rfl ?_
          refine TL_q (Qt_assign (.int .i64 _) rfl) rfl ?_
          refine TL_nil ?_
          apply X_loop
          case ha => exact (by repeat (first | with_reducible exact agree_refl | refine agree_upd rfl ?_ | refine agree_mix rfl ?_ | refine agree_setAll rfl ?_))
          case hI => exact by first | exact ⟨k + 1, a2, c2, M, p, rfl, rfl, by omega, (hst.trans hw).symm⟩ | exact ⟨k + 1, a46, c46, M ++ [(FileV.mk nm b)] ++ [L[k]], true, rfl, rfl, by omega, (hst.trans hw).symm⟩ | exact ⟨k + 1, a46, c46, M ++ [L[k]], p, rfl, rfl, by omega, (hst.trans hw).symm⟩
          case hm => exact by show L.length - (k + 1 : Int).toNat < L.length - (k : Int).toNat; omega
          case hH => exact (Subs.st inferInstance)
        ·
          have p33 := h33
          try simp only [decide_eq_true_eq, decide_eq_false_iff_not, Bool.not_eq_true', Bool.not_eq_false', Option.isNone_iff_eq_none, ne_eq, Decidable.not_not, Int.not_lt, Int.not_le] at p33
          have hw : wStep nm b (M, p) L[k] = (M ++ [L[k]], p) := by unfold wStep; rw [if_neg (by simpa using h22), if_neg (by rintro ⟨q1, q2⟩; simp_all)]
          refine T_skip ?_
          refine X_then ?_
          refine T_region ?_
          refine TL_q (Qt_move (.slice _ _ _) rfl) rfl ?_
          refine TL_q (Qt_move (.slice _ _ _) rfl) rfl ?_
          refine TL_q (Qt_move (.int .i64 _) rfl) rfl ?_
          refine TL_q (Qt_indexN rfl rfl (by omega) (by omega)) rfl ?_
          refine TL_q (Qt_val (Qt_loadRN 2 L[k].list rfl (flat_slice _ 2 FileV.list_len L k hk) (FileV.list_len _) (by decide)) (show Value.agg L[k].list.toArray = Value.agg L[k].cells from rfl)) rfl ?_
          refine TL_e rfl (Ef_sliceN (m := ([L[k]] : List FileV).length) [.agg (L[k]).cells] (([L[k]] : List FileV).flatMap FileV.list) rfl rfl rfl rfl (by simp [Value.cells, FileV.size]) rfl rfl (fun a45 c45 => ?_))
          refine TL_e rfl (Ef_appendS FileV.list (sv := .slice _ _ _) (xv := .slice _ _ _) (ys := [L[k]]) FileV.list_len FileV.list_one rfl rfl (by simp; omega) rfl rfl (fun a46 c46 => ?_))
          refine TL_q (Qt_assign (.slice _ _ _) rfl) rfl ?_
          refine TL_nil ?_
          refine X_block ?_
          refine X_then ?_
          refine T_region ?_
          refine TL_q (Qt_move (.int .i64 _) rfl) rfl ?_
          first
            | refine TL_q (Qt_add rfl rfl (by omega) (by omega)) rfl ?_
            | refine TL_q (Qt_addw rfl rfl) rfl ?_
          refine TL_q (Qt_assign (.int .i64 _) rfl) rfl ?_
          refine TL_nil ?_
          apply X_loop
          case ha => exact (by repeat (first | with_reducible exact agree_refl | refine agree_upd rfl ?_ | refine agree_mix rfl ?_ | refine agree_setAll rfl ?_))
          case hI => exact by first | exact ⟨k + 1, a2, c2, M, p, rfl, rfl, by omega, (hst.trans hw).symm⟩ | exact ⟨k + 1, a46, c46, M ++ [(FileV.mk nm b)] ++ [L[k]], true, rfl, rfl, by omega, (hst.trans hw).symm⟩ | exact ⟨k + 1, a46, c46, M ++ [L[k]], p, rfl, rfl, by omega, (hst.trans hw).symm⟩
          case hm => exact by show L.length - (k + 1 : Int).toNat < L.length - (k : Int).toNat; omega
          case hH => exact (Subs.st inferInstance)
      ·
        have p25 := h25
        try simp only [decide_eq_true_eq, decide_eq_false_iff_not, Bool.not_eq_true', Bool.not_eq_false', Option.isNone_iff_eq_none, ne_eq, Decidable.not_not, Int.not_lt, Int.not_le] at p25
        refine TL_pass rfl rfl h25 rfl ?_
        refine TL_pass rfl rfl h25 rfl ?_
        refine TL_pass rfl rfl h25 rfl ?_
        refine TL_pass rfl rfl h25 rfl ?_
        refine TL_pass rfl rfl h25 rfl ?_
        refine TL_pass rfl rfl h25 rfl ?_
        refine TL_pass rfl rfl h25 rfl ?_
        refine TL_q (Qt_pick_f (.bool _) rfl h25 rfl) rfl ?_
        refine TL_nil ?_
        refine X_then ?_
        refine T_cond_false rfl rfl ?_
        have hw : wStep nm b (M, p) L[k] = (M ++ [L[k]], p) := by unfold wStep; rw [if_neg (by simpa using h22), if_neg (by rintro ⟨q1, q2⟩; simp_all)]
        refine T_skip ?_
        refine X_then ?_
        refine T_region ?_
        refine TL_q (Qt_move (.slice _ _ _) rfl) rfl ?_
        refine TL_q (Qt_move (.slice _ _ _) rfl) rfl ?_
        refine TL_q (Qt_move (.int .i64 _) rfl) rfl ?_
        refine TL_q (Qt_indexN rfl rfl (by omega) (by omega)) rfl ?_
        refine TL_q (Qt_val (Qt_loadRN 2 L[k].list rfl (flat_slice _ 2 FileV.list_len L k hk) (FileV.list_len _) (by decide)) (show Value.agg L[k].list.toArray = Value.agg L[k].cells from rfl)) rfl ?_
        refine TL_e rfl (Ef_sliceN (m := ([L[k]] : List FileV).length) [.agg (L[k]).cells] (([L[k]] : List FileV).flatMap FileV.list) rfl rfl rfl rfl (by simp [Value.cells, FileV.size]) rfl rfl (fun a45 c45 => ?_))
        refine TL_e rfl (Ef_appendS FileV.list (sv := .slice _ _ _) (xv := .slice _ _ _) (ys := [L[k]]) FileV.list_len FileV.list_one rfl rfl (by simp; omega) rfl rfl (fun a46 c46 => ?_))
        refine TL_q (Qt_assign (.slice _ _ _) rfl) rfl ?_
        refine TL_nil ?_
        refine X_block ?_
        refine X_then ?_
        refine T_region ?_
        refine TL_q (Qt_move (.int .i64 _) rfl) rfl ?_
        first
          | refine TL_q (Qt_add rfl rfl (by omega) (by omega)) rfl ?_
          | refine TL_q (Qt_addw rfl rfl) rfl ?_
        refine TL_q (Qt_assign (.int .i64 _) rfl) rfl ?_
        refine TL_nil ?_
        apply X_loop
        case ha => exact (by repeat (first | with_reducible exact agree_refl | refine agree_upd rfl ?_ | refine agree_mix rfl ?_ | refine agree_setAll rfl ?_))
        case hI => exact by first | exact ⟨k + 1, a2, c2, M, p, rfl, rfl, by omega, (hst.trans hw).symm⟩ | exact ⟨k + 1, a46, c46, M ++ [(FileV.mk nm b)] ++ [L[k]], true, rfl, rfl, by omega, (hst.trans hw).symm⟩ | exact ⟨k + 1, a46, c46, M ++ [L[k]], p, rfl, rfl, by omega, (hst.trans hw).symm⟩
        case hm => exact by show L.length - (k + 1 : Int).toNat < L.length - (k : Int).toNat; omega
        case hH => exact (Subs.st inferInstance)
  ·
    have p13 := h13
    try simp only [decide_eq_true_eq, decide_eq_false_iff_not, Bool.not_eq_true', Bool.not_eq_false', Option.isNone_iff_eq_none, ne_eq, Decidable.not_not, Int.not_lt, Int.not_le] at p13
    have et : L.take k = L := List.take_of_length_le (by omega)
    rw [et] at hW
    have hle := wStep_len nm b L ([], false)
    rw [← hW] at hle
    simp only [List.length_nil] at hle
    refine T_exit ?_
    refine X_then_exit ?_
    refine X_loop_exit ?_
    refine X_block_exit ?_
    refine X_then ?_
    refine T_seq ?_
    refine T_seq ?_
    refine T_region ?_
    refine TL_q (Qt_move (.bool _) rfl) rfl ?_
    refine TL_q (Qt_not rfl) rfl ?_
    refine TL_nil ?_
    refine X_then ?_
    refine T_cond rfl (fun h48 => ?_) (fun h48 => ?_)
    ·
      have p48 := h48
      try simp only [decide_eq_true_eq, decide_eq_false_iff_not, Bool.not_eq_true', Bool.not_eq_false', Option.isNone_iff_eq_none, ne_eq, Decidable.not_not, Int.not_lt, Int.not_le] at p48
      refine T_region ?_
      refine TL_q (Qt_move (.slice _ _ _) rfl) rfl ?_
      refine TL_q (Qt_move (.string _) rfl) rfl ?_
      refine TL_q (Qt_move (.slice _ _ _) rfl) rfl ?_
      refine TL_q (Qt_build [(0, (.string _)), (1, .slice _ _ _)] rfl (by kernel_rfl)) rfl ?_
      refine TL_e rfl (Ef_sliceN (m := ([(FileV.mk nm b)] : List FileV).length) [.agg ((FileV.mk nm b)).cells] (([(FileV.mk nm b)] : List FileV).flatMap FileV.list) rfl rfl rfl rfl (by simp [Value.cells, FileV.size]) rfl rfl (fun a53 c53 => ?_))
      refine TL_e rfl (Ef_appendS FileV.list (sv := .slice _ _ _) (xv := .slice _ _ _) (xs := M) (ys := [(FileV.mk nm b)]) FileV.list_len FileV.list_one rfl rfl (by simp; omega) rfl rfl (fun a54 c54 => ?_))
      refine TL_q (Qt_assign (.slice _ _ _) rfl) rfl ?_
      refine TL_nil ?_
      refine X_then ?_
      refine T_seq ?_
      refine T_region ?_
      refine TL_q (Qt_move (.slice _ _ _) rfl) rfl ?_
      refine TL_q (Qt_assign (.slice _ _ _) rfl) rfl ?_
      refine TL_nil ?_
      refine X_then ?_
      refine T_ret ?_
      have e : withV L nm b = M ++ [(FileV.mk nm b)] := by unfold withV; rw [← hW]; exact if_neg (by simpa using h48)
      exact X_ret ⟨a54, c54⟩ [_] Try.results53 ⟨rfl, trivial⟩ (by rw [e]; rfl) (fun w hw => by rw [e]; exact Subs.st inferInstance w hw)
    ·
      have p48 := h48
      try simp only [decide_eq_true_eq, decide_eq_false_iff_not, Bool.not_eq_true', Bool.not_eq_false', Option.isNone_iff_eq_none, ne_eq, Decidable.not_not, Int.not_lt, Int.not_le] at p48
      refine T_skip ?_
      refine X_then ?_
      refine T_seq ?_
      refine T_region ?_
      refine TL_q (Qt_move (.slice _ _ _) rfl) rfl ?_
      refine TL_q (Qt_assign (.slice _ _ _) rfl) rfl ?_
      refine TL_nil ?_
      refine X_then ?_
      refine T_ret ?_
      have e : withV L nm b = M := by unfold withV; rw [← hW]; exact if_pos (by simpa using h48)
      exact X_ret ⟨a2, c2⟩ [_] Try.results53 ⟨rfl, trivial⟩ (by rw [e]; rfl) (fun w hw => by rw [e]; exact Subs.st inferInstance w hw)
set_option maxHeartbeats 1000000 in
theorem join_c {w0 : World} {H : List SA} {a a2 : Option Addr} {l l2 : List UInt8} {c c2 : Nat} [hr : RdB w0 H (.slice a l.length c) l] [hr2 : RdB w0 H (.slice a2 l2.length c2) l2] (hl : l.length + l2.length ≤ 4294967000) :
    CT Try.prog w0 (H) 54 [.slice a l.length c, .slice a2 l2.length c2] (α := AC) (fun y => .slice y.a (l ++ l2).length y.c) (fun y => row (.slice y.a (l ++ l2).length y.c) 5 1 (bytesV (l ++ l2)) :: H) := by
  refine CT_intro Try.func54 rfl Try.ntmps54 rfl ?_
  refine T_seq ?_
  refine T_region ?_
  refine TL_q (Qt_assign (.slice _ _ _) rfl) rfl ?_
  refine TL_nil ?_
  refine X_then ?_
  refine T_seq ?_
  refine T_region ?_
  refine TL_q (Qt_assign (.slice _ _ _) rfl) rfl ?_
  refine TL_nil ?_
  refine X_then ?_
  refine T_seq ?_
  refine T_region ?_
  refine TL_q (Qt_move (.slice _ _ _) rfl) rfl ?_
  refine TL_q (Qt_move (.slice _ _ _) rfl) rfl ?_
  refine TL_conv (fun w hw => hw.addNilB 5) ?_
  refine TL_e rfl (Ef_appendB (sv := .slice _ _ _) (xv := .slice _ _ _) rfl rfl (by simp; omega) rfl (fun a8 c8 => ?_))
  refine TL_q (Qt_assign (.slice _ _ _) rfl) rfl ?_
  refine TL_nil ?_
  refine X_then ?_
  refine T_seq ?_
  refine T_region ?_
  refine TL_q (Qt_move (.slice _ _ _) rfl) rfl ?_
  refine TL_q (Qt_move (.slice _ _ _) rfl) rfl ?_
  refine TL_e rfl (Ef_appendB (sv := .slice _ _ _) (xv := .slice _ _ _) rfl rfl (by simp; omega) rfl (fun a11 c11 => ?_))
  rw [List.nil_append]
  refine TL_q (Qt_assign (.slice _ _ _) rfl) rfl ?_
  refine TL_nil ?_
  refine X_then ?_
  refine T_seq ?_
  refine T_region ?_
  refine TL_q (Qt_move (.slice _ _ _) rfl) rfl ?_
  refine TL_q (Qt_assign (.slice _ _ _) rfl) rfl ?_
  refine TL_nil ?_
  refine X_then ?_
  refine T_ret ?_
  exact X_ret ⟨a11, c11⟩ [_] Try.results54 ⟨rfl, trivial⟩ rfl (Subs.st inferInstance)
end Go.Proofs.Ytededghplnoajaa
