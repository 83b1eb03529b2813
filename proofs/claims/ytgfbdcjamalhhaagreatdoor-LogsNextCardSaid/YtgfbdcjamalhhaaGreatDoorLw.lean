/- What a log on a disk is; the law LogsFull, walked. -/
import Derived.Test.YtgfbdcjamalhhaaGreatDoorLv
import Derived.Test.YtgfbdcjamalhhaaGreatDoorLr
namespace Go.Proofs.YtgfbdcjamalhhaaGreatDoor
open Go.RowKit Go.Sx
set_option maxRecDepth 100000
set_option linter.unusedSimpArgs false
set_option linter.unusedVariables false
set_option maxHeartbeats 1000000 in
theorem sameAll_c {w0 : World} {H : List SA} {a a2 : Option Addr} {l l2 : List BS} {c c2 : Nat} [hr : RdC w0 H (.slice a l.length c) 1 (l.map BS.val)] [re : RdE w0 H l] [hr2 : RdC w0 H (.slice a2 l2.length c2) 1 (l2.map BS.val)] [re2 : RdE w0 H l2] (hl : l.length ≤ 4294967296) (he1 : ∀ x ∈ l, x.l.length ≤ 4294967296) :
    CT Tryz.prog w0 (H) 12 [.slice a l.length c, .slice a2 l2.length c2] (α := Unit) (fun _ => .bool (decide (l.map BS.l = l2.map BS.l))) (fun _ => H) := by
  refine CT_intro Tryz.func12 rfl Tryz.ntmps12 rfl ?_
  refine T_seq ?_
  refine T_region ?_
  refine TL_q (Qt_assign (.bool _) rfl) rfl ?_
  refine TL_nil ?_
  refine X_then ?_
  refine T_seq ?_
  refine T_seq ?_
  refine T_region ?_
  refine TL_q (Qt_move (.slice _ _ _) rfl) rfl ?_
  refine TL_q (Qt_len_slice rfl Tryz.underlying22) rfl ?_
  refine TL_q (Qt_move (.slice _ _ _) rfl) rfl ?_
  refine TL_q (Qt_len_slice rfl Tryz.underlying22) rfl ?_
  refine TL_q (Qt_neq rfl rfl) rfl ?_
  refine TL_nil ?_
  refine X_then ?_
  refine T_cond rfl (fun h10 => ?_) (fun h10 => ?_)
  ·
    have p10 := h10
    try simp only [decide_eq_true_eq, decide_eq_false_iff_not, Bool.not_eq_true', Bool.not_eq_false', Option.isNone_iff_eq_none, ne_eq, Decidable.not_not, Int.not_lt, Int.not_le] at p10
    refine T_seq ?_
    refine T_region ?_
    refine TL_q (Qt_assign (.bool _) rfl) rfl ?_
    refine TL_nil ?_
    refine X_then ?_
    refine T_ret ?_
    refine X_then_ret ?_
    have he : ¬ l.map BS.l = l2.map BS.l := fun h => p10 (by have := congrArg List.length h; simp at this; omega)
    exact X_ret () [.bool (decide (l.map BS.l = l2.map BS.l))] Tryz.results12 ⟨by simp only [he, decide_false]; rfl, trivial⟩ rfl (Subs.st inferInstance)
  ·
    have p10 := h10
    try simp only [decide_eq_true_eq, decide_eq_false_iff_not, Bool.not_eq_true', Bool.not_eq_false', Option.isNone_iff_eq_none, ne_eq, Decidable.not_not, Int.not_lt, Int.not_le] at p10
    refine T_skip ?_
    refine X_then ?_
    refine T_seq ?_
    refine T_seq ?_
    refine T_region ?_
    refine TL_q (Qt_assign (.int .i64 _) rfl) rfl ?_
    refine TL_nil ?_
    refine X_then ?_
    refine T_block ?_
    have hll : (l.map BS.l).length = (l2.map BS.l).length := by simp; omega
    refine T_loop [4, 5, 11, 12, 13, 14, 15, 16, 17, 18, 19, 20, 21, 22, 23, 24, 25, 26] [5] (fun vs H' => ∃ k : Nat, vs = [.int .i64 (k : Int)] ∧ H = H' ∧ k ≤ l.length ∧ (l.map BS.l).take k = (l2.map BS.l).take k) (fun vs => match vs with | .int _ i :: _ => l.length - i.toNat | _ => 0) ⟨0, rfl, rfl, by omega, rfl⟩ (Subs.st inferInstance) ?_
    rintro τ0 _ _  ⟨k, rfl, rfl, hk0, hpre⟩ _
    refine T_seq ?_
    refine T_seq ?_
    refine T_region ?_
    refine TL_q (Qt_move (.int .i64 _) rfl) rfl ?_
    refine TL_q (Qt_move (.slice _ _ _) rfl) rfl ?_
    refine TL_q (Qt_len_slice rfl Tryz.underlying22) rfl ?_
    refine TL_q (Qt_lss rfl rfl) rfl ?_
    refine TL_nil ?_
    refine X_then ?_
    refine T_cond rfl (fun h14 => ?_) (fun h14 => ?_)
    ·
      have p14 := h14
      try simp only [decide_eq_true_eq, decide_eq_false_iff_not, Bool.not_eq_true', Bool.not_eq_false', Option.isNone_iff_eq_none, ne_eq, Decidable.not_not, Int.not_lt, Int.not_le] at p14
      have hk : k < l.length := by omega
      have hk2 : k < l2.length := by simp at hll; omega
      have : RdB w0 H (.slice l[k].a l[k].l.length l[k].c) l[k].l := re.get (List.getElem_mem hk)
      have : RdB w0 H (.slice l2[k].a l2[k].l.length l2[k].c) l2[k].l := re2.get (List.getElem_mem hk2)
      refine T_skip ?_
      refine X_then ?_
      refine T_seq ?_
      refine T_block ?_
      refine T_seq ?_
      refine T_draw _ [(0, true), (1, true), (2, true), (3, true), (4, true), (5, true), (6, true), (7, true), (8, false), (9, true)] (by kernel_rfl) (by kernel_rfl) rfl (by kernel_rfl) (fun _ hh => hh) (fun hns0 => ?_)
      refine DL_q hns0 rfl (Qt_move (.slice _ _ _) rfl) rfl ?_
      refine DL_q hns0 rfl (Qt_move (.int .i64 _) rfl) rfl ?_
      refine DL_q hns0 rfl (Qt_indexR rfl rfl (by omega) (by simp; omega)) rfl ?_
      refine DL_q hns0 rfl (Qt_loadR (.slice _ _ _) rfl (vals_get _ _ hk)) rfl ?_
      refine DL_q hns0 rfl (Qt_move (.slice _ _ _) rfl) rfl ?_
      refine DL_q hns0 rfl (Qt_move (.int .i64 _) rfl) rfl ?_
      refine DL_q hns0 rfl (Qt_indexR rfl rfl (by omega) (by simp; omega)) rfl ?_
      refine DL_q hns0 rfl (Qt_loadR (.slice _ _ _) rfl (vals_get _ _ hk2)) rfl ?_
      refine DL_e rfl rfl (Ef_call (same_c (he1 _ (List.getElem_mem hk))) rfl (fun x25 => ⟨(Subs.st inferInstance), ?_⟩))
      refine DL_q hns0 rfl (Qt_not rfl) rfl ?_
      refine DL_nil ?_
      refine X_then ?_
      refine T_cond rfl (fun h26 => ?_) (fun h26 => ?_)
      ·
        have p26 := h26
        try simp only [decide_eq_true_eq, decide_eq_false_iff_not, Bool.not_eq_true', Bool.not_eq_false', Option.isNone_iff_eq_none, ne_eq, Decidable.not_not, Int.not_lt, Int.not_le] at p26
        have hne : l[k].l ≠ l2[k].l := by simpa using p26
        have he := ne_of_get (l := l.map BS.l) (l2 := l2.map BS.l) (k := k) (by simpa using hk) (by simpa using hk2) (by simpa using hne)
        refine T_seq ?_
        refine T_region ?_
        refine TL_q (Qt_assign (.bool _) rfl) rfl ?_
        refine TL_nil ?_
        refine X_then ?_
        refine T_ret ?_
        refine X_block_ret ?_
        refine X_then_ret ?_
        refine X_loop_ret ?_
        refine X_block_ret ?_
        refine X_then_ret ?_
        exact X_ret () [.bool (decide (l.map BS.l = l2.map BS.l))] Tryz.results12 ⟨by simp only [he, decide_false, decide_true]; rfl, trivial⟩ rfl (Subs.st inferInstance)
      ·
        have p26 := h26
        try simp only [decide_eq_true_eq, decide_eq_false_iff_not, Bool.not_eq_true', Bool.not_eq_false', Option.isNone_iff_eq_none, ne_eq, Decidable.not_not, Int.not_lt, Int.not_le] at p26
        have heq : l[k].l = l2[k].l := by simpa using p26
        refine T_skip ?_
        refine X_block ?_
        refine X_then ?_
        refine T_region ?_
        refine TL_q (Qt_move (.int .i64 _) rfl) rfl ?_
        first
          | refine TL_q (Qt_add rfl rfl (by omega) (by omega)) rfl ?_
          | refine TL_q (Qt_addw rfl rfl) rfl ?_
        refine TL_q (Qt_assign (.int .i64 _) rfl) rfl ?_
        refine TL_nil ?_
        refine X_loop _ (by repeat (first | with_reducible exact agree_refl | refine agree_upd rfl ?_ | refine agree_mix rfl ?_ | refine agree_setAll rfl ?_)) (⟨k + 1, rfl, rfl, by omega, take_eq_snoc hpre (by simpa using hk) (by simpa using hk2) (by simpa using heq)⟩) (by show l.length - (k + 1 : Int).toNat < l.length - (k : Int).toNat; omega) ((Subs.st inferInstance))
    ·
      have p14 := h14
      try simp only [decide_eq_true_eq, decide_eq_false_iff_not, Bool.not_eq_true', Bool.not_eq_false', Option.isNone_iff_eq_none, ne_eq, Decidable.not_not, Int.not_lt, Int.not_le] at p14
      have he := take_eq_all hpre (by simp; omega) hll
      refine T_exit ?_
      refine X_then_exit ?_
      refine X_loop_exit ?_
      refine X_block_exit ?_
      refine X_then ?_
      refine T_seq ?_
      refine T_region ?_
      refine TL_q (Qt_assign (.bool _) rfl) rfl ?_
      refine TL_nil ?_
      refine X_then ?_
      refine T_ret ?_
      exact X_ret () [.bool (decide (l.map BS.l = l2.map BS.l))] Tryz.results12 ⟨by simp only [he, decide_false, decide_true]; rfl, trivial⟩ rfl (Subs.st inferInstance)
/-- Segments whose records are numbered one behind the other, from a to b. -/
def chL (fs : Nat → Nat) (rc : Nat → List (List UInt8)) : List Nat → Nat → Nat → Prop
  | [], a, b => a = b
  | n :: ns, a, b => fs n = a ∧ chL fs rc ns (a + (rc n).length) b
theorem chL_le {fs : Nat → Nat} {rc : Nat → List (List UInt8)} : ∀ {ns : List Nat} {a b : Nat}, chL fs rc ns a b → a ≤ b
  | [], a, b, h => by have : a = b := h; omega
  | n :: ns, a, b, h => by have := chL_le h.2; omega
theorem chL_bound {fs : Nat → Nat} {rc : Nat → List (List UInt8)} : ∀ {ns : List Nat} {a b : Nat}, chL fs rc ns a b → ∀ n ∈ ns, a ≤ fs n ∧ fs n + (rc n).length ≤ b
  | [], _, _, _, n, h => by cases h
  | x :: ns, a, b, h, n, hn => by
    have h2 := chL_le h.2
    rcases List.mem_cons.1 hn with rfl | hn
    · rw [h.1]; exact ⟨Nat.le_refl _, h2⟩
    · have := chL_bound h.2 n hn; omega
theorem chL_app {fs : Nat → Nat} {rc : Nat → List (List UInt8)} {x : Nat} : ∀ {ns : List Nat} {a b : Nat}, chL fs rc (ns ++ [x]) a b ↔ chL fs rc ns a (fs x) ∧ b = fs x + (rc x).length
  | [], a, b => by
    show (fs x = a ∧ a + (rc x).length = b) ↔ (a = fs x ∧ b = fs x + (rc x).length)
    constructor
    · rintro ⟨h1, h2⟩; exact ⟨h1.symm, by rw [h1]; exact h2.symm⟩
    · rintro ⟨h1, h2⟩; exact ⟨h1.symm, by rw [h1]; exact h2.symm⟩
  | n :: ns, a, b => by
    show (fs n = a ∧ chL fs rc (ns ++ [x]) (a + (rc n).length) b) ↔ ((fs n = a ∧ chL fs rc ns (a + (rc n).length) (fs x)) ∧ b = fs x + (rc x).length)
    rw [chL_app, and_assoc]
theorem chL_congr {fs fs' : Nat → Nat} {rc rc' : Nat → List (List UInt8)} : ∀ {ns : List Nat} {a b : Nat}, (∀ n ∈ ns, fs' n = fs n ∧ rc' n = rc n) → chL fs rc ns a b → chL fs' rc' ns a b
  | [], _, _, _, h => h
  | n :: ns, a, b, he, h => by
    have h1 := he n (by simp)
    exact ⟨by rw [h1.1]; exact h.1, by rw [h1.2]; exact chL_congr (fun x hx => he x (by simp [hx])) h.2⟩
theorem okS_chL {fs : Nat → Nat} {rc : Nat → List (List UInt8)} : ∀ {ns : List Nat} {a b : Nat} {t : LS}, chL fs rc ns a b → (t.bg = true → t.nx = a) → okS fs rc ns t
  | [], _, _, _, _, _ => trivial
  | n :: ns, a, b, t, h, ht => by
    refine ⟨fun _ hb => by rw [ht hb, h.1], okS_chL h.2 ?_⟩
    show bgS t (rc n).length = true → nxS t (fs n) (rc n).length = a + (rc n).length
    unfold bgS nxS
    by_cases h0 : (rc n).length = 0
    · rw [if_pos h0, if_pos h0, h0]; exact ht
    · rw [if_neg h0, if_neg h0, h.1]; exact fun _ => rfl
theorem flat_congr {rc rc' : Nat → List (List UInt8)} : ∀ {ns : List Nat}, (∀ n ∈ ns, rc' n = rc n) → ns.flatMap rc' = ns.flatMap rc
  | [], _ => rfl
  | n :: ns, h => by rw [List.flatMap_cons, List.flatMap_cons, h n (by simp), flat_congr fun x hx => h x (by simp [hx])]
structure LogI (pre : ByteArray) (s : DS) (t : LS) (fs : Nat → Nat) (rc : Nat → List (List UInt8)) (all : List (List UInt8)) : Prop where
  down : s.down = false
  fuse : s.fuse = -1
  keys : ∀ key, getE s.e2 key ≠ none → ∃ n ∈ t.segs, key = nmB pre n
  file : ∀ n ∈ t.segs, ∃ x : BS, getE s.e2 (nmB pre n) = some x ∧ x.l = recsB (fs n) (rc n)
  segs : t.segs.Pairwise (· < ·)
  rng : ∀ n ∈ t.segs, 1 ≤ n ∧ n ≤ lastN t.segs
  chain : ∃ a, 1 ≤ a ∧ chL fs rc t.segs a t.nx
  siz : t.segs.length ≠ 0 → t.siz = (recsB (fs (lastN t.segs)) (rc (lastN t.segs))).length
  all : all = t.segs.flatMap rc
  short : ∀ n ∈ t.segs, ∀ l ∈ rc n, l.length ≤ 1000
theorem nm_inj {pre : ByteArray} {n k : Nat} (hn : n < 100) (hk : k < 100) (h : nmB pre n = nmB pre k) : n = k := by
  have h1 := congrArg (fun b : ByteArray => b.data.toList) h
  simp only [nm_list] at h1
  have h2 := List.append_cancel_left h1
  have h3 := (atoi_dec hn).symm.trans ((congrArg Lib.atoiAll h2).trans (atoi_dec hk))
  have h4 : (n : Int) = (k : Int) := by injection h3
  omega
theorem nm_size3 {pre : ByteArray} (n : Nat) (hn : n < 100) : (nmB pre n).size ≤ pre.size + 3 ∧ 1 ≤ (nmB pre n).size := by
  have h := nm_size n hn
  have h2 : dotB.size = 1 := rfl
  unfold nmB
  rw [ByteArray.size_append, ByteArray.size_append, h2]
  omega
theorem last_app (l : List Nat) (x : Nat) : lastN (l ++ [x]) = x := by unfold lastN; simp
theorem last_mem {l : List Nat} (h : l.length ≠ 0) : lastN l ∈ l := by
  unfold lastN
  cases l with
  | nil => simp at h
  | cons x l => rw [List.getLastD_eq_getLast?, List.getLast?_eq_some_getLast (by simp)]; exact List.getLast_mem _
theorem split_last {l : List Nat} (h : l.length ≠ 0) : ∃ i, l = i ++ [lastN l] := by
  have hne : l ≠ [] := fun he => h (by rw [he]; rfl)
  refine ⟨l.dropLast, ?_⟩
  unfold lastN
  rw [List.getLastD_eq_getLast?, List.getLast?_eq_some_getLast hne]
  exact (List.dropLast_concat_getLast hne).symm
theorem new_gt {t : LS} {pre : ByteArray} {s : DS} {fs : Nat → Nat} {rc : Nat → List (List UInt8)} {all : List (List UInt8)} (h : LogI pre s t fs rc all) : ∀ n ∈ t.segs, n < newN t.segs := fun n hn => by
  have h1 := (h.rng n hn).2
  unfold newN
  rw [if_neg (by intro h0; rw [List.eq_nil_of_length_eq_zero h0] at hn; cases hn)]
  omega
theorem new_le (l : List Nat) : newN l ≤ lastN l + 1 := by unfold newN; split <;> omega
theorem live_err {k : Int} {less : Nat} {s s' : DS} {pre : ByteArray} {n : Nat} {b : List UInt8} {e : Int} (h : AppR k less s (nmB pre n) b s' e) (hk : k = 1 ∨ k = 2) (hd : s.down = false) (hf : s.fuse = -1) (hn : n < 100) (hp : pre.size ≤ 8) (he : e ≠ 0) : s' = s ∧ e = 4 := by
  obtain ⟨h1, h2⟩ := (h.live hk hd hf).1 he
  refine ⟨h1, ?_⟩
  rcases h2 with ⟨-, h2⟩ | ⟨h2, -⟩
  · have h3 := nm_size3 (pre := pre) n hn
    exact absurd h2 (by unfold namedB; rw [decide_eq_true (by omega)]; simp)
  · exact h2
/-- A segment is begun with records. -/
theorem LogI.begin {pre : ByteArray} {s s' : DS} {t t' : LS} {fs : Nat → Nat} {rc : Nat → List (List UInt8)} {all ls : List (List UInt8)} {e : Int} (hI : LogI pre s t fs rc all) (h : BeginR pre s t ls s' t' e) (hp : pre.size ≤ 8) (hlast : lastN t.segs < 99) (hls : ∀ l ∈ ls, l.length ≤ 1000) :
    (e ≠ 0 → e = 4 ∧ s' = s ∧ t' = t) ∧ (e = 0 → ∃ fs' rc', LogI pre s' t' fs' rc' (all ++ ls) ∧ t'.segs = t.segs ++ [newN t.segs] ∧ t'.nx = t.nx + ls.length ∧ rc' (newN t.segs) = ls ∧ fs' (newN t.segs) = t.nx ∧ ∀ n ∈ t.segs, rc' n = rc n ∧ fs' n = fs n) := by
  obtain ⟨ha, h1, h2⟩ := h
  have hnl := new_le t.segs
  have hgt := new_gt hI
  refine ⟨fun he => ?_, fun he => ?_⟩
  · obtain ⟨e1, e2⟩ := live_err ha (.inr rfl) hI.down hI.fuse (by omega) hp he
    exact ⟨e2, e1, h1 he⟩
  · obtain ⟨q1, q2, q3, q4⟩ := h2 he
    obtain ⟨hd, hf, -, x, hx, hg⟩ := (ha.live (.inr rfl) hI.down hI.fuse).2 he
    rw [if_neg (by decide)] at hx
    have hne : ∀ n ∈ t.segs, nmB pre n ≠ nmB pre (newN t.segs) := fun n hn h => by
      have h1 := (hI.rng n hn).2
      have h3 := nm_inj (by omega) (by omega) h
      have h4 := hgt n hn
      omega
    obtain ⟨a, ha1, hch⟩ := hI.chain
    have hcg : ∀ n ∈ t.segs, (if n = newN t.segs then t.nx else fs n) = fs n ∧ (if n = newN t.segs then ls else rc n) = rc n := fun n hn => by
      have := hgt n hn
      exact ⟨if_neg (by omega), if_neg (by omega)⟩
    refine ⟨fun n => if n = newN t.segs then t.nx else fs n, fun n => if n = newN t.segs then ls else rc n, ⟨hd, hf, fun key hk => ?_, fun n hn => ?_, ?_, fun n hn => ?_, ⟨a, ha1, ?_⟩, fun _ => ?_, ?_, fun n hn l hl => ?_⟩, q1, q3, if_pos rfl, if_pos rfl, fun n hn => (hcg n hn).symm⟩
    · rw [hg] at hk
      rw [q1]
      by_cases h3 : key = nmB pre (newN t.segs)
      · exact ⟨_, by simp, h3⟩
      · rw [if_neg h3] at hk
        obtain ⟨n, hn, h4⟩ := hI.keys key hk
        exact ⟨n, by simp [hn], h4⟩
    · rw [q1] at hn
      rcases List.mem_append.1 hn with hn | hn
      · obtain ⟨y, hy1, hy2⟩ := hI.file n hn
        refine ⟨y, by rw [hg, if_neg (hne n hn)]; exact hy1, ?_⟩
        rw [(hcg n hn).1, (hcg n hn).2]; exact hy2
      · obtain rfl : n = newN t.segs := by simpa using hn
        exact ⟨x, by rw [hg, if_pos rfl], by rw [if_pos rfl, if_pos rfl]; exact hx⟩
    · rw [q1, List.pairwise_append]
      exact ⟨hI.segs, List.pairwise_singleton _ _, fun a ha b hb => by
        obtain rfl : b = newN t.segs := by simpa using hb
        exact hgt a ha⟩
    · rw [q1, last_app]
      rw [q1] at hn
      rcases List.mem_append.1 hn with hn | hn
      · exact ⟨(hI.rng n hn).1, by have := hgt n hn; omega⟩
      · obtain rfl : n = newN t.segs := by simpa using hn
        exact ⟨by unfold newN; split <;> omega, Nat.le_refl _⟩
    · rw [q1, chL_app]
      refine ⟨?_, ?_⟩
      · rw [if_pos rfl]; exact chL_congr hcg hch
      · rw [if_pos rfl, if_pos rfl]; exact q3
    · rw [q1, last_app, if_pos rfl, if_pos rfl]; exact q2
    · rw [q1, List.flatMap_append, flat_congr fun n hn => (hcg n hn).2, ← hI.all]
      simp
    · rw [q1] at hn
      rcases List.mem_append.1 hn with hn | hn
      · rw [(hcg n hn).2] at hl; exact hI.short n hn l hl
      · obtain rfl : n = newN t.segs := by simpa using hn
        rw [if_pos rfl] at hl; exact hls l hl
theorem LogI.append {pre : ByteArray} {s s' : DS} {t t' : LS} {fs : Nat → Nat} {rc : Nat → List (List UInt8)} {all : List (List UInt8)} {l : List UInt8} {e : Int} (hI : LogI pre s t fs rc all) (h : AppendR pre s t l s' t' e) (hp : pre.size ≤ 8) (hlast : lastN t.segs < 99) (hl : l.length ≤ 1000) (hnx : t.nx ≤ 1000000) (hsz : t.siz ≤ 20000) :
    (e ≠ 0 → e = 4 ∧ s' = s ∧ t' = t) ∧ (e = 0 → (∃ fs' rc', LogI pre s' t' fs' rc' (all ++ [l])) ∧ lastN t'.segs ≤ lastN t.segs + 1 ∧ t'.segs.length ≤ t.segs.length + 1 ∧ t'.nx = t.nx + 1 ∧ t'.siz ≤ 20000) := by
  have htl := (toldB_len t.nx (by omega) l (by omega)).1
  rcases h with ⟨-, hb⟩ | ⟨h0, ha, h1, h2⟩
  · obtain ⟨r1, r2⟩ := hI.begin hb hp hlast (fun x hx => by obtain rfl : x = l := (by simpa using hx); exact hl)
    refine ⟨r1, fun he => ?_⟩
    obtain ⟨fs', rc', hI', q1, q2, -⟩ := r2 he
    have hz := (hb.2.2 he).2.1
    have hb1 : (recsB t.nx [l]).length = (toldB t.nx l).length := by simp only [recsB, List.append_nil]
    rw [hb1] at hz
    exact ⟨⟨fs', rc', hI'⟩, by rw [q1, last_app]; exact new_le _, by rw [q1]; simp, q2, by omega⟩
  · have hs0 : t.segs.length ≠ 0 := fun h => h0 (.inl h)
    obtain ⟨L, hL⟩ : ∃ L, L = lastN t.segs := ⟨_, rfl⟩
    have hm : L ∈ t.segs := by rw [hL]; exact last_mem hs0
    have hi0 := split_last hs0
    have hsiz := hI.siz hs0
    have hrng : ∀ n ∈ t.segs, 1 ≤ n ∧ n ≤ L := by rw [hL]; exact hI.rng
    rw [← hL] at hi0 ha hlast hsiz
    refine ⟨fun he => ?_, fun he => ?_⟩
    · obtain ⟨e1, e2⟩ := live_err ha (.inl rfl) hI.down hI.fuse (by omega) hp he
      exact ⟨e2, e1, h1 he⟩
    · obtain ⟨q1, q2, q3, q4⟩ := h2 he
      obtain ⟨hd, hf, -, x, hx, hg⟩ := (ha.live (.inl rfl) hI.down hI.fuse).2 he
      rw [if_pos rfl] at hx
      obtain ⟨y, hy1, hy2⟩ := hI.file _ hm
      have hold : (oldE s.e2 (nmB pre L)).l = recsB (fs L) (rc L) := by unfold oldE; rw [hy1]; exact hy2
      obtain ⟨i, hi⟩ := hi0
      obtain ⟨a, ha1, hch⟩ := hI.chain
      rw [hi, chL_app] at hch
      have hxl : x.l = recsB (fs L) (rc L ++ [l]) := by
        rw [hx, hold, recsB_app, ← hch.2]
        simp only [recsB, List.append_nil]
      have hni : ∀ n ∈ i, n ≠ L := fun n hn h => by
        have hp2 := hI.segs
        rw [hi, List.pairwise_append] at hp2
        have := hp2.2.2 n hn L (by simp)
        omega
      have hcg : ∀ n ∈ i, fs n = fs n ∧ (if n = L then rc n ++ [l] else rc n) = rc n := fun n hn => ⟨rfl, if_neg (hni n hn)⟩
      refine ⟨⟨fs, fun n => if n = L then rc n ++ [l] else rc n, ⟨hd, hf, fun key hk => ?_, fun n hn => ?_, by rw [q1]; exact hI.segs, fun n hn => by rw [q1] at hn ⊢; exact hI.rng n hn, ⟨a, ha1, ?_⟩, fun _ => ?_, ?_, fun n hn l' hl' => ?_⟩⟩, by rw [q1]; omega, by rw [q1]; omega, q3, ?_⟩
      · rw [hg] at hk
        rw [q1]
        by_cases h3 : key = nmB pre L
        · exact ⟨_, hm, h3⟩
        · rw [if_neg h3] at hk; exact hI.keys key hk
      · rw [q1] at hn
        show ∃ x, getE s'.e2 (nmB pre n) = some x ∧ x.l = recsB (fs n) (if n = L then rc n ++ [l] else rc n)
        by_cases hnl : n = L
        · subst hnl
          exact ⟨x, by rw [hg, if_pos rfl], by rw [if_pos rfl]; exact hxl⟩
        · obtain ⟨z, hz1, hz2⟩ := hI.file n hn
          have h5 := (hrng n hn).2
          refine ⟨z, by rw [hg, if_neg (fun h => hnl (nm_inj (by omega) (by omega) h))]; exact hz1, by rw [if_neg hnl]; exact hz2⟩
      · rw [q1, hi, chL_app]
        refine ⟨chL_congr hcg hch.1, ?_⟩
        rw [if_pos rfl, List.length_append, q3, hch.2]
        simp; omega
      · show t'.siz = (recsB (fs (lastN t'.segs)) (if lastN t'.segs = L then rc (lastN t'.segs) ++ [l] else rc (lastN t'.segs))).length
        rw [q1, ← hL, if_pos rfl, q2, hsiz, recsB_app, List.length_append, ← hch.2]
        simp only [recsB, List.append_nil]
      · rw [q1, hI.all, hi, List.flatMap_append, List.flatMap_append, flat_congr fun n hn => (hcg n hn).2]
        simp
      · rw [q1] at hn
        have hl2 : l' ∈ (if n = L then rc n ++ [l] else rc n) := hl'
        by_cases hnl : n = L
        · rw [if_pos hnl] at hl2
          rcases List.mem_append.1 hl2 with h | h
          · exact hI.short n hn l' h
          · obtain rfl : l' = l := by simpa using h
            exact hl
        · rw [if_neg hnl] at hl2; exact hI.short n hn l' hl2
      · have : ¬ 2048 ≤ t.siz := fun h => h0 (.inr h)
        omega
theorem LogI.sync {pre : ByteArray} {s s' : DS} {t : LS} {fs : Nat → Nat} {rc : Nat → List (List UInt8)} {all : List (List UInt8)} (hI : LogI pre s t fs rc all) (h : SyncR s s') : LogI pre s' t fs rc all := by
  rcases h with ⟨h, -⟩ | ⟨-, q1, q2, rfl⟩
  · rw [hI.fuse, hI.down] at h; exact absurd h (by decide)
  · exact ⟨rfl, by show burnF s.fuse = -1; rw [hI.fuse]; rfl, hI.keys, hI.file, hI.segs, hI.rng, hI.chain, hI.siz, hI.all, hI.short⟩
theorem choose_map {α β : Type} (f : α → β) (P : α → Prop) : ∀ l : List β, (∀ y ∈ l, ∃ x, P x ∧ y = f x) → ∃ xs : List α, l = xs.map f ∧ ∀ x ∈ xs, P x
  | [], _ => ⟨[], rfl, fun _ h => by cases h⟩
  | y :: l, h => by
    obtain ⟨x, hx, hy⟩ := h y (by simp)
    obtain ⟨xs, h1, h2⟩ := choose_map f P l (fun z hz => h z (by simp [hz]))
    exact ⟨x :: xs, by rw [hy, h1]; rfl, fun z hz => by rcases List.mem_cons.1 hz with rfl | hz; exact hx; exact h2 z hz⟩
theorem getE_some {es : FM} {e : Ent ByteArray BS} (h : e ∈ es) : getE es e.k ≠ none := by
  intro hn
  simp only [getE, Option.map_eq_none_iff] at hn
  have := List.find?_eq_none.1 hn e h
  simp at this
theorem LogI.names {pre : ByteArray} {s : DS} {t : LS} {fs : Nat → Nat} {rc : Nat → List (List UInt8)} {all : List (List UInt8)} (hI : LogI pre s t fs rc all) (hlast : lastN t.segs < 100) (hg : GoodM s.e2 s.c2) : ∃ ns : List Nat, namesE s.e2 = ns.map (nmB pre) ∧ ns.Perm t.segs := by
  have hp := namesE_perm s.e2
  obtain ⟨ns, h1, h2⟩ := choose_map (nmB pre) (fun n => n ∈ t.segs) (namesE s.e2) (fun y hy => by
    obtain ⟨e, he, rfl⟩ := List.mem_map.1 (hp.mem_iff.1 hy)
    exact hI.keys _ (getE_some he))
  have hlt : ∀ n ∈ t.segs, n < 100 := fun n hn => by have := (hI.rng n hn).2; omega
  refine ⟨ns, h1, (List.perm_ext_iff_of_nodup ?_ (hI.segs.imp fun h => Nat.ne_of_lt h)).2 fun n => ⟨h2 n, fun hn => ?_⟩⟩
  · have hnd : (namesE s.e2).Nodup := hp.nodup_iff.2 hg.keys
    rw [h1] at hnd
    exact (List.pairwise_map.1 hnd).imp fun h he => h (by rw [he])
  · obtain ⟨x, hx1, -⟩ := hI.file n hn
    obtain ⟨e, he, hk, -⟩ := getE_memF hx1
    have hm : nmB pre n ∈ namesE s.e2 := hp.mem_iff.2 (List.mem_map.2 ⟨e, he, hk⟩)
    rw [h1] at hm
    obtain ⟨k, hk1, hk2⟩ := List.mem_map.1 hm
    rw [← nm_inj (hlt k (h2 k hk1)) (hlt n hn) hk2]; exact hk1
theorem LogI.start {pre : ByteArray} {r1 r2 : Nat} {n : Int} {fs : Nat → Nat} {rc : Nat → List (List UInt8)} : LogI pre (newS r1 r2 n) ⟨none, 0, [], 0, 1, false⟩ fs rc [] :=
  ⟨rfl, rfl, fun key h => absurd rfl h, (fun _ h => by cases h), List.Pairwise.nil, (fun _ h => by cases h), ⟨1, Nat.le_refl _, rfl⟩, fun h => absurd rfl h, rfl, (fun _ h => by cases h)⟩
def lgB : ByteArray := ⟨#[108, 111, 103]⟩
theorem fineLg : fineB lgB = true := by decide +kernel
attribute [local irreducible] toldB recsB nmB nxS bgS runS namesE lastN newN sha
end Go.Proofs.YtgfbdcjamalhhaaGreatDoor
