/- Walks of package logs: Cut. -/
import Derived.Test.YtgfbdcjamalhhaaGreatDoorLw
namespace Go.Proofs.YtgfbdcjamalhhaaGreatDoor
open Go.RowKit Go.Sx
set_option maxRecDepth 100000
set_option linter.unusedSimpArgs false
set_option linter.unusedVariables false
theorem getE_del_eq : ∀ (es : FM) (k : ByteArray), (es.map (·.k)).Nodup → getE (delE es k) k = none
  | [], k, _ => rfl
  | e :: es, k, hn => by
    obtain ⟨h1, h2⟩ := List.nodup_cons.1 (by simpa using hn : (e.k :: es.map (·.k)).Nodup)
    by_cases h : k = e.k
    · rw [delE, if_pos h]
      cases hg : getE es k with
      | none => rfl
      | some v =>
        obtain ⟨x, hx, hk, -⟩ := getE_memF hg
        exact absurd (List.mem_map.2 ⟨x, hx, hk.trans h⟩) h1
    · rw [delE, if_neg h, getE_cons, if_neg h]
      exact getE_del_eq es k h2
theorem MvR.live {s s' : DS} {nm : ByteArray} {e : Int} (h : MvR ⟨4, nm, ⟨#[]⟩, zB⟩ (namedB nm) s s' e) (hd : s.down = false) (hf : s.fuse = -1) (hn : namedB nm = true) (hh : hasE s.e2 nm = true) (hg : GoodM s.e2 s.c2) :
    e = 0 ∧ s'.down = false ∧ s'.fuse = -1 ∧ ∀ key, getE s'.e2 key = if key = nm then none else getE s.e2 key := by
  rcases h with ⟨h, -⟩ | ⟨-, h, -⟩ | ⟨-, -, h, -⟩ | ⟨-, -, -, hd'⟩
  · rw [hd] at h; cases h
  · rw [hn] at h; cases h
  · have : hasE s.e2 nm = false := h
    rw [hh] at this; cases this
  · rcases hd' with ⟨h, -⟩ | ⟨-, he, x, pa, pc, fp', hx, rfl⟩
    · exact absurd h (by show burnD s.fuse s.down ≠ true; rw [hf, hd]; decide)
    · refine ⟨he, rfl, by show burnF s.fuse = -1; rw [hf]; rfl, fun key => ?_⟩
      show getE (doE s.e2 ⟨4, nm, ⟨#[]⟩, zB⟩ x s.c2) key = _
      have hdo : doE s.e2 ⟨4, nm, ⟨#[]⟩, zB⟩ x s.c2 = delE s.e2 nm := by
        unfold doE
        rw [if_neg (by show ¬ ((4 : Int) = 1 ∨ (4 : Int) = 2); decide), if_neg (by show ¬ (4 : Int) = 3; decide), if_pos rfl]
      rw [hdo]
      by_cases hke : key = nm
      · subst hke; rw [if_pos rfl]; exact getE_del_eq _ _ hg.keys
      · rw [if_neg hke]; exact getE_del_ne _ _ _ hke
theorem last_cons {n : Nat} {r : List Nat} (h : r ≠ []) : lastN (n :: r) = lastN r := by
  unfold lastN
  cases r with
  | nil => exact absurd rfl h
  | cons x r => rfl
/-- The first segment goes. -/
theorem LogI.del {pre : ByteArray} {s s' : DS} {t t' : LS} {fs : Nat → Nat} {rc : Nat → List (List UInt8)} {all : List (List UInt8)} {n : Nat} {r : List Nat} {e : Int} (hI : LogI pre s t fs rc all) (hsg : t.segs = n :: r) (hr : r ≠ []) (hlast : lastN t.segs < 100) (hp : pre.size ≤ 8) (hg : GoodM s.e2 s.c2)
    (h : MvR ⟨4, nmB pre n, ⟨#[]⟩, zB⟩ (namedB (nmB pre n)) s s' e) (h1 : t'.segs = r) (h2 : t'.siz = t.siz) (h3 : t'.nx = t.nx) : e = 0 ∧ LogI pre s' t' fs rc (r.flatMap rc) := by
  have hlt : ∀ k ∈ t.segs, k < 100 := fun k hk => by have := (hI.rng k hk).2; omega
  have hnm : n ∈ t.segs := by rw [hsg]; simp
  obtain ⟨y, hy1, -⟩ := hI.file n hnm
  have hz := nm_size3 (pre := pre) n (hlt n hnm)
  obtain ⟨he, hd, hf, hgt⟩ := h.live hI.down hI.fuse (by unfold namedB; rw [decide_eq_true (by omega)]) (by unfold hasE; rw [hy1]; rfl) hg
  have hpw := hI.segs
  rw [hsg, List.pairwise_cons] at hpw
  have hsub : ∀ k ∈ r, k ∈ t.segs := fun k hk => by rw [hsg]; simp [hk]
  have hne : ∀ k ∈ r, nmB pre k ≠ nmB pre n := fun k hk he => by
    have h4 := nm_inj (hlt k (hsub k hk)) (hlt n hnm) he
    have h5 := hpw.1 k hk
    omega
  have hll : lastN t.segs = lastN r := by rw [hsg]; exact last_cons hr
  have hrl : r.length ≠ 0 := fun h => hr (List.eq_nil_of_length_eq_zero h)
  obtain ⟨a, ha1, hch⟩ := hI.chain
  rw [hsg] at hch
  refine ⟨he, hd, hf, fun key hk => ?_, fun k hk => ?_, by rw [h1]; exact hpw.2, fun k hk => ?_, ⟨a + (rc n).length, by omega, by rw [h1, h3]; exact hch.2⟩, fun _ => ?_, by rw [h1], fun k hk l hl => ?_⟩
  · rw [hgt] at hk
    by_cases hke : key = nmB pre n
    · rw [if_pos hke] at hk; exact absurd rfl hk
    · rw [if_neg hke] at hk
      obtain ⟨k, hk1, hk2⟩ := hI.keys key hk
      rw [hsg] at hk1
      rcases List.mem_cons.1 hk1 with rfl | hk1
      · exact absurd hk2 hke
      · exact ⟨k, by rw [h1]; exact hk1, hk2⟩
  · rw [h1] at hk
    obtain ⟨z, hz1, hz2⟩ := hI.file k (hsub k hk)
    exact ⟨z, by rw [hgt, if_neg (hne k hk)]; exact hz1, hz2⟩
  · rw [h1] at hk ⊢
    have := hI.rng k (hsub k hk)
    rw [hll] at this; exact this
  · rw [h1, h2, hI.siz (by rw [hsg]; simp), hll]
  · rw [h1] at hk; exact hI.short k (hsub k hk) l hl
attribute [local irreducible] toldB recsB nmB lastN newN
theorem CellsAt.none1 {w : World} {n c sz : Nat} {xs : List Value} (h : CellsAt w (.slice none n c) sz xs) : xs = [] := by
  obtain ⟨a', n', c', hv, -, -, -, hx⟩ := h
  obtain ⟨rfl, -, -⟩ : a' = none ∧ n' = n ∧ c' = c := by simp at hv; exact ⟨hv.1.symm, hv.2.1.symm, hv.2.2.symm⟩
  by_cases h0 : 0 < xs.length
  · obtain ⟨b, o, h1, -⟩ := hx h0; cases h1
  · exact List.eq_nil_of_length_eq_zero (by omega)
set_option maxHeartbeats 1000000 in
theorem iclone_c {w0 : World} {H : List SA} {a : Option Addr} {l : List Nat} {c : Nat} [hr : RdC w0 H (.slice a l.length c) 1 (l.map encI)] (hl : l.length ≤ 1000000) :
    CT Tryz.prog w0 (H) 46 [.slice a l.length c] (α := AC) (fun x => .slice x.a l.length x.c) (fun x => row (.slice x.a l.length x.c) 3 1 (l.map encI) :: H) := by
  refine CT_intro Tryz.func46 rfl Tryz.ntmps46 rfl ?_
  refine T_seq ?_
  refine T_region ?_
  refine TL_q (Qt_assign (.slice _ _ _) rfl) rfl ?_
  refine TL_nil ?_
  refine X_then ?_
  refine T_seq ?_
  refine T_seq ?_
  refine T_region ?_
  refine TL_q (Qt_move (.slice _ _ _) rfl) rfl ?_
  refine TL_q (Qt_slice_nil rfl rfl Tryz.underlying99) rfl ?_
  refine TL_nil ?_
  refine X_then ?_
  refine T_cond rfl (fun h4 => ?_) (fun h4 => ?_)
  ·
    have p4 := h4
    try simp only [decide_eq_true_eq, decide_eq_false_iff_not, Bool.not_eq_true', Bool.not_eq_false', Option.isNone_iff_eq_none, ne_eq, Decidable.not_not, Int.not_lt, Int.not_le] at p4
    refine T_seq ?_
    refine T_region ?_
    refine TL_q (Qt_assign (.slice _ _ _) rfl) rfl ?_
    refine TL_nil ?_
    refine X_then ?_
    refine T_ret ?_
    refine X_then_ret ?_
    subst p4
    refine X_know (fun w hw => CellsAt.none1 (hr.rd w hw)) (fun hnil => ?_)
    have hl0 : l = [] := List.map_eq_nil_iff.1 hnil
    subst hl0
    exact X_ret ⟨none, 0⟩ [.slice none 0 0] Tryz.results46 ⟨rfl, trivial⟩ rfl (fun w hw => hw.addNil 3 1)
  ·
    have p4 := h4
    try simp only [decide_eq_true_eq, decide_eq_false_iff_not, Bool.not_eq_true', Bool.not_eq_false', Option.isNone_iff_eq_none, ne_eq, Decidable.not_not, Int.not_lt, Int.not_le] at p4
    refine T_skip ?_
    refine X_then ?_
    refine T_seq ?_
    refine T_region ?_
    refine TL_e rfl (Ef_slice0 (fun a5 c5 => ?_))
    refine TL_q (Qt_move (.slice _ _ _) rfl) rfl ?_
    refine TL_e rfl (Ef_append1 (sv := .slice _ _ _) (xv := .slice _ _ _) (xs := []) (news := l.map encI) rfl rfl (fun u hu => by obtain ⟨z, -, rfl⟩ := List.mem_map.1 hu; rfl) (by simp; omega) rfl (fun a7 c7 => ?_))
    simp only [List.nil_append, List.length_map]
    refine TL_q (Qt_assign (.slice _ _ _) rfl) rfl ?_
    refine TL_nil ?_
    refine X_then ?_
    refine T_ret ?_
    exact X_ret ⟨a7, c7⟩ [_] Tryz.results46 ⟨rfl, trivial⟩ rfl (Subs.st inferInstance)
theorem last_drop {l : List Nat} (k : Nat) (hk : k < l.length) : lastN (l.drop k) = lastN l := by
  induction k generalizing l with
  | zero => rfl
  | succ k ih =>
    cases l with
    | nil => simp at hk
    | cons x l =>
      rw [List.drop_succ_cons, ih (by simpa using hk)]
      exact (last_cons (by intro h; rw [h] at hk; simp at hk)).symm
theorem cut_step {w0 w : World} {H : List SA} {lp p z nx : Nat} {bg : Bool} {pre : ByteArray} {ga : Option Addr} {gc n : Nat} {l r : List Nat} {X : SA} (hl : l = n :: r)
    (h : St w0 (X :: blk lp (.cells (LogV.mk (some ⟨p, 0, none⟩) pre ⟨subA ga gc 1 1, l.length - 1, gc - 1⟩ (z : Int) (nx : Int) bg).cells 101 (0, 0)) :: rowO (.slice ga l.length gc) 3 (l.map encI) :: H) w) :
    St w0 (X :: lblk lp p pre (⟨subA ga gc 1 1, gc - 1, r, z, nx, bg⟩ : LS) :: lrow (⟨subA ga gc 1 1, gc - 1, r, z, nx, bg⟩ : LS) :: H) w := by
  subst hl
  have h1 : St w0 (rowO (.slice ga (encI n :: r.map encI).length gc) 3 (encI n :: r.map encI) :: X :: lblk lp p pre (⟨subA ga gc 1 1, gc - 1, r, z, nx, bg⟩ : LS) :: H) w := by
    have h2 : St w0 (X :: lblk lp p pre (⟨subA ga gc 1 1, gc - 1, r, z, nx, bg⟩ : LS) :: rowO (.slice ga (encI n :: r.map encI).length gc) 3 (encI n :: r.map encI) :: H) w := by
      have e : (encI n :: r.map encI).length = (n :: r).length := by simp
      rw [e]; exact h
    exact Subs.st inferInstance w h2
  have h3 := St.tailO h1
  rw [List.length_map] at h3
  exact Subs.st inferInstance w h3
set_option maxHeartbeats 1000000 in
theorem lcut_c {w0 : World} {H : List SA} {lp p : Nat} {pre : ByteArray} {t : LS} {s : DS} {M K : Nat} (hok : s.Ok M K) (hM : M ≤ 100000) (hK : K ≤ 800000000) (hK2 : 10000 ≤ K) (hp : pre.size ≤ 8) (hsl : t.segs.length ≤ 1000) (hlast : lastN t.segs < 98) {fs : Nat → Nat} {rc : Nat → List (List UInt8)} {all : List (List UInt8)} (hI : LogI pre s t fs rc all) {ra : Option Addr} {rc0 : Nat} {rs : List BS} [rk : RdC w0 H (.slice ra rs.length rc0) 1 (rs.map BS.val)] [rke : RdE w0 H rs] (hr8 : rs.length ≤ 9) (hrl : ∀ x ∈ rs, x.l.length ≤ 1000) (hnx : t.nx ≤ 1000000) :
    CT Tryz.prog w0 (lblk lp p pre t :: lrow t :: DS.H p s H) 15 [.pointer (some ⟨lp, 0, none⟩), .slice ra rs.length rc0] (α := DS × LS × Int) (fun y => .int .i64 y.2.2) (fun y => pu (y.1.Ok (M + 2 + t.segs.length) (K + 100000 * (2 + t.segs.length)) ∧ (y.2.2 = 0 → (∃ fs rc, LogI pre y.1 y.2.1 fs rc (rs.map BS.l)) ∧ y.2.1.segs = [newN t.segs] ∧ y.2.1.nx = t.nx + rs.length ∧ y.2.1.siz ≤ 20000)) :: lblk lp p pre y.2.1 :: lrow y.2.1 :: DS.H p y.1 H) := by
  refine CT_intro Tryz.func15 rfl Tryz.ntmps15 rfl ?_
  refine T_seq ?_
  refine T_region ?_
  refine TL_q (Qt_assign (.int .i64 _) rfl) rfl ?_
  refine TL_nil ?_
  refine X_then ?_
  refine T_seq ?_
  refine T_seq ?_
  refine T_region ?_
  refine TL_q (Qt_move (.pointer _) rfl) rfl ?_
  refine TL_q (Qt_ptr_nil rfl rfl Tryz.underlying26) rfl ?_
  refine TL_nil ?_
  refine X_then ?_
  refine T_cond_false rfl (by first | rfl | decide) ?_
  refine T_skip ?_
  refine X_then ?_
  refine T_seq ?_
  refine T_region ?_
  refine TL_q (Qt_move (.pointer _) rfl) rfl ?_
  refine TL_q (Qt_nilCheck rfl) rfl ?_
  refine TL_q (Qt_fieldAddr 2 rfl rfl) rfl ?_
  refine TL_q (Qt_load1 rfl) rfl ?_
  refine TL_e rfl (Ef_call (iclone_c (l := t.segs) (by omega)) rfl (fun x16 => ?_))
  refine TL_q (Qt_assign (.slice _ _ _) rfl) rfl ?_
  refine TL_nil ?_
  refine X_then ?_
  refine T_seq ?_
  refine T_seq ?_
  refine T_region ?_
  refine TL_q (Qt_move (.pointer _) rfl) rfl ?_
  refine TL_q (Qt_move (.slice _ _ _) rfl) rfl ?_
  refine TL_conv (fun w hw => (Subs.st inferInstance w hw : St w0 (lblk lp p pre t :: lrow t :: DS.H p s (row (.slice x16.a t.segs.length x16.c) 3 1 (t.segs.map encI) :: H)) w)) ?_
  refine TL_e rfl (Ef_call (begin_c (s := s) (t := t) hok (by omega) (by omega) hK2 (by omega) hsl (by omega) (rs := rs) hr8 hrl hnx) rfl (fun x19 => ?_))
  refine TL_pure (fun h19 => ?_)
  have hrb := recsB_len (rs.map BS.l) t.nx (by simp; omega) (fun l hl => by obtain ⟨x, hx, rfl⟩ := List.mem_map.1 hl; exact hrl x hx)
  rw [List.length_map] at hrb
  obtain ⟨r1, r2⟩ := hI.begin h19 hp (by omega) (fun l hl => by obtain ⟨x, hx, rfl⟩ := List.mem_map.1 hl; exact hrl x hx)
  have hok1 := h19.ok hok (by omega) hK2
  refine TL_q (Qt_assign (.int .i64 _) rfl) rfl ?_
  refine TL_nil ?_
  refine X_then ?_
  refine T_seq ?_
  refine T_region ?_
  refine TL_q (Qt_move (.int .i64 _) rfl) rfl ?_
  refine TL_q (Qt_neq rfl rfl) rfl ?_
  refine TL_nil ?_
  refine X_then ?_
  refine T_cond rfl (fun h21 => ?_) (fun h21 => ?_)
  ·
    have p21 := h21
    try simp only [decide_eq_true_eq, decide_eq_false_iff_not, Bool.not_eq_true', Bool.not_eq_false', Option.isNone_iff_eq_none, ne_eq, Decidable.not_not, Int.not_lt, Int.not_le] at p21
    refine T_seq ?_
    refine T_region ?_
    refine TL_q (Qt_move (.int .i64 _) rfl) rfl ?_
    refine TL_q (Qt_assign (.int .i64 _) rfl) rfl ?_
    refine TL_nil ?_
    refine X_then ?_
    refine T_ret ?_
    refine X_then_ret ?_
    exact X_ret (x19.1, x19.2.1, x19.2.2) [_] Tryz.results15 ⟨rfl, trivial⟩ rfl (fun w hw => (Subs.st inferInstance w hw : St w0 (lblk lp p pre x19.2.1 :: lrow x19.2.1 :: DS.H p x19.1 H) w).addPure ⟨hok1.mono (by omega) (by omega), fun h => absurd h p21⟩)
  ·
    have p21 := h21
    try simp only [decide_eq_true_eq, decide_eq_false_iff_not, Bool.not_eq_true', Bool.not_eq_false', Option.isNone_iff_eq_none, ne_eq, Decidable.not_not, Int.not_lt, Int.not_le] at p21
    refine T_skip ?_
    refine X_then ?_
    refine T_seq ?_
    refine T_region ?_
    refine TL_q (Qt_move (.pointer _) rfl) rfl ?_
    refine TL_q (Qt_nilCheck rfl) rfl ?_
    refine TL_q (Qt_fieldAddr 0 rfl rfl) rfl ?_
    refine TL_q (Qt_load1 rfl) rfl ?_
    obtain ⟨fs1, rc1, hI1, q1, q2, q3, q4, q5⟩ := r2 p21
    refine TL_conv (fun w hw => (Subs.st inferInstance w hw : St w0 (DS.H p x19.1 (lblk lp p pre x19.2.1 :: lrow x19.2.1 :: row (.slice x16.a t.segs.length x16.c) 3 1 (t.segs.map encI) :: H)) w)) ?_
    refine TL_e rfl (Ef_call (sync_c (s := x19.1) hok1 (by omega) (by omega)) rfl (fun x27 => ?_))
    refine TL_pure (fun h27 => ?_)
    have hok2 := h27.ok hok1
    have hI2 := hI1.sync h27
    refine TL_nil ?_
    refine X_then ?_
    refine T_seq ?_
    refine T_seq ?_
    refine T_region ?_
    refine TL_q (Qt_move (.slice _ _ _) rfl) rfl ?_
    refine TL_q (Qt_len_slice rfl Tryz.underlying99) rfl ?_
    refine TL_q (Qt_move (.int .i64 _) rfl) rfl ?_
    refine TL_nil ?_
    refine X_then ?_
    refine T_block ?_
    refine T_loop [4, 8, 9, 30, 31, 32, 33, 34, 35, 36, 37, 38, 39, 40, 41, 42, 43, 44, 45, 46, 47, 48, 49, 50, 51, 52, 53, 54, 55, 56, 57, 58] [30] (fun us H' => ∃ (k : Nat) (ga : Option Addr) (gc : Nat) (sk : DS), us = [.int .i64 (k : Int)] ∧ row (.slice x16.a t.segs.length x16.c) 3 1 (t.segs.map encI) :: lblk lp p pre (⟨ga, gc, x19.2.1.segs.drop k, x19.2.1.siz, x19.2.1.nx, x19.2.1.bg⟩ : LS) :: lrow (⟨ga, gc, x19.2.1.segs.drop k, x19.2.1.siz, x19.2.1.nx, x19.2.1.bg⟩ : LS) :: DS.H p sk H = H' ∧ k ≤ t.segs.length ∧ (sk.Ok (M + 2 + k) (K + 100000 * (2 + k))) ∧ (LogI pre sk (⟨ga, gc, x19.2.1.segs.drop k, x19.2.1.siz, x19.2.1.nx, x19.2.1.bg⟩ : LS) fs1 rc1 ((x19.2.1.segs.drop k).flatMap rc1))) (fun us => match us with | .int _ i :: _ => t.segs.length - i.toNat | _ => 0) ⟨0, x19.2.1.ga, x19.2.1.gc, x27, rfl, rfl, by omega, hok2.mono (by omega) (by omega), by rw [List.drop_zero]; have h := hI2; rw [h.all] at h; exact h⟩ (fun w hw => by
          have h0 : St w0 (row (.slice x16.a t.segs.length x16.c) 3 1 (t.segs.map encI) :: lblk lp p pre x19.2.1 :: lrow x19.2.1 :: DS.H p x27 H) w := Subs.st inferInstance w hw
          exact h0) ?_
    rintro τ0 _ _  ⟨k, ga, gc, sk, rfl, rfl, hk0, hokk, hIk⟩ _
    refine T_seq ?_
    refine T_region ?_
    refine TL_q (Qt_lss rfl rfl) rfl ?_
    refine TL_nil ?_
    refine X_then ?_
    refine T_seq ?_
    refine T_cond rfl (fun h31 => ?_) (fun h31 => ?_)
    ·
      have p31 := h31
      try simp only [decide_eq_true_eq, decide_eq_false_iff_not, Bool.not_eq_true', Bool.not_eq_false', Option.isNone_iff_eq_none, ne_eq, Decidable.not_not, Int.not_lt, Int.not_le] at p31
      have hk : k < t.segs.length := by omega
      have hdk : x19.2.1.segs.drop k = t.segs[k] :: x19.2.1.segs.drop (k + 1) := by rw [List.drop_eq_getElem_cons (by rw [q1]; simp; omega)]; congr 1; simp only [q1]; rw [List.getElem_append_left hk]
      have hrne : x19.2.1.segs.drop (k + 1) ≠ [] := by intro h; have := congrArg List.length h; rw [List.length_drop, q1] at this; simp at this; omega
      refine T_skip ?_
      refine X_then ?_
      refine T_seq ?_
      refine T_block ?_
      refine T_seq ?_
      refine T_region ?_
      refine TL_q (Qt_indexR rfl rfl (by omega) (by rw [List.length_map]; omega)) rfl ?_
      refine TL_q (Qt_loadR (.int .i64 ((t.segs[k] : Nat) : Int)) rfl (encI_get t.segs k hk)) rfl ?_
      refine TL_q (Qt_assign (.int .i64 _) rfl) rfl ?_
      refine TL_nil ?_
      refine X_then ?_
      refine T_seq ?_
      refine T_seq ?_
      refine T_draw (lblk lp p pre (⟨ga, gc, x19.2.1.segs.drop k, x19.2.1.siz, x19.2.1.nx, x19.2.1.bg⟩ : LS) :: lrow (⟨ga, gc, x19.2.1.segs.drop k, x19.2.1.siz, x19.2.1.nx, x19.2.1.bg⟩ : LS) :: row (.slice x16.a t.segs.length x16.c) 3 1 (t.segs.map encI) :: H) [(0, true), (1, true), (2, true), (3, true), (4, true), (5, true), (6, false), (7, false), (8, true)] (by kernel_rfl) (by kernel_rfl) rfl (by kernel_rfl) (Subs.st inferInstance) (fun hns0 => ?_)
      refine DL_q hns0 rfl (Qt_move (.pointer _) rfl) rfl ?_
      refine DL_q hns0 rfl (Qt_nilCheck rfl) rfl ?_
      refine DL_q hns0 rfl (Qt_fieldAddr 0 rfl rfl) rfl ?_
      refine DL_q hns0 rfl (Qt_load1 rfl) rfl ?_
      refine DL_q hns0 rfl (Qt_move (.pointer _) rfl) rfl ?_
      refine DL_q hns0 rfl (Qt_move (.int .i64 _) rfl) rfl ?_
      refine DL_frontA (lblk lp p pre (⟨ga, gc, x19.2.1.segs.drop k, x19.2.1.siz, x19.2.1.nx, x19.2.1.bg⟩ : LS)) ?_
      refine DL_e rfl rfl (Ef_call (name_c (t := (⟨ga, gc, x19.2.1.segs.drop k, x19.2.1.siz, x19.2.1.nx, x19.2.1.bg⟩ : LS)) (by omega) (i := t.segs[k]) (by have := (hI.rng _ (List.getElem_mem hk)).2; omega)) rfl (fun x40 => ⟨(Subs.st inferInstance), ?_⟩))
      refine DL_conv (fun w hw => (Subs.st inferInstance w hw : St w0 (DS.H p sk (lblk lp p pre (⟨ga, gc, x19.2.1.segs.drop k, x19.2.1.siz, x19.2.1.nx, x19.2.1.bg⟩ : LS) :: lrow (⟨ga, gc, x19.2.1.segs.drop k, x19.2.1.siz, x19.2.1.nx, x19.2.1.bg⟩ : LS) :: row (.slice x16.a t.segs.length x16.c) 3 1 (t.segs.map encI) :: H)) w)) ?_
      refine DL_e rfl rfl (Ef_call (delete_c (s := sk) hokk (by omega) (by omega) (nm := nmB pre t.segs[k])) rfl (fun x41 => ⟨(Subs.st inferInstance), ?_⟩))
      refine DL_pure (fun h41 => ?_)
      have hok41 := (h41.ok hokk rfl).mono (N' := M + 2 + (k + 1)) (M' := K + 100000 * (2 + (k + 1))) (by omega) (by omega)
      obtain ⟨e41, hI41⟩ := hIk.del (t' := (⟨subA ga gc 1 1, gc - 1, x19.2.1.segs.drop (k + 1), x19.2.1.siz, x19.2.1.nx, x19.2.1.bg⟩ : LS)) (n := t.segs[k]) (r := x19.2.1.segs.drop (k + 1)) hdk hrne (by show lastN (x19.2.1.segs.drop k) < 100; have := last_drop k (l := x19.2.1.segs) (by rw [q1]; simp; omega); rw [this, q1, last_app]; have := new_le t.segs; omega) hp hokk.good2 h41 rfl rfl rfl
      rw [e41]
      refine DL_q hns0 rfl (Qt_assign (.int .i64 _) rfl) rfl ?_
      refine DL_nil ?_
      refine X_then ?_
      refine T_seq ?_
      refine T_region ?_
      refine TL_q (Qt_move (.int .i64 _) rfl) rfl ?_
      refine TL_q (Qt_neq rfl rfl) rfl ?_
      refine TL_nil ?_
      refine X_then ?_
      refine T_cond_false rfl (by first | rfl | decide) ?_
      refine T_skip ?_
      refine X_then ?_
      refine T_seq ?_
      refine T_region ?_
      refine TL_q (Qt_move (.pointer _) rfl) rfl ?_
      refine TL_q (Qt_nilCheck rfl) rfl ?_
      refine TL_q (Qt_fieldAddr 0 rfl rfl) rfl ?_
      refine TL_q (Qt_load1 rfl) rfl ?_
      refine TL_conv (fun w hw => (Subs.st inferInstance w hw : St w0 (DS.H p x41.1 (lblk lp p pre (⟨ga, gc, x19.2.1.segs.drop k, x19.2.1.siz, x19.2.1.nx, x19.2.1.bg⟩ : LS) :: lrow (⟨ga, gc, x19.2.1.segs.drop k, x19.2.1.siz, x19.2.1.nx, x19.2.1.bg⟩ : LS) :: row (.slice x16.a t.segs.length x16.c) 3 1 (t.segs.map encI) :: H)) w)) ?_
      refine TL_e rfl (Ef_call (sync_c (s := x41.1) hok41 (by omega) (by omega)) rfl (fun x49 => ?_))
      refine TL_pure (fun h49 => ?_)
      have hok49 := h49.ok hok41
      have hI49 := hI41.sync h49
      refine TL_nil ?_
      refine X_then ?_
      refine T_region ?_
      refine TL_q (Qt_move (.pointer _) rfl) rfl ?_
      refine TL_q (Qt_move (.pointer _) rfl) rfl ?_
      refine TL_q (Qt_nilCheck rfl) rfl ?_
      refine TL_q (Qt_fieldAddr 2 rfl rfl) rfl ?_
      refine TL_q (Qt_load1 rfl) rfl ?_
      have hdk : x19.2.1.segs.drop k = t.segs[k] :: x19.2.1.segs.drop (k + 1) := by rw [List.drop_eq_getElem_cons (by rw [q1]; simp; omega)]; congr 1; simp only [q1]; rw [List.getElem_append_left hk]
      refine TL_q (Qt_slice_l 1 rfl rfl (by show 1 ≤ (x19.2.1.segs.drop k).length; rw [hdk]; simp)) rfl ?_
      refine TL_q (Qt_nilCheck rfl) rfl ?_
      refine TL_q (Qt_fieldAddr 2 rfl rfl) rfl ?_
      refine TL_n (Ef_store1 (.slice _ _ _) rfl rfl (?_))
      refine TL_nil ?_
      refine X_block ?_
      refine X_then ?_
      refine T_region ?_
      first
        | refine TL_q (Qt_add rfl rfl (by omega) (by omega)) rfl ?_
        | refine TL_q (Qt_addw rfl rfl) rfl ?_
      refine TL_q (Qt_move (.int .i64 _) rfl) rfl ?_
      refine TL_nil ?_
      apply X_loop
      case ha => exact (by repeat (first | with_reducible exact agree_refl | refine agree_upd rfl ?_ | refine agree_mix rfl ?_ | refine agree_setAll rfl ?_))
      case hI => exact ⟨k + 1, subA ga gc 1 1, gc - 1, x49, rfl, rfl, by omega, hok49, hI49⟩
      case hm => exact by show t.segs.length - (k + 1 : Int).toNat < t.segs.length - (k : Int).toNat; omega
      case hH => exact fun w hw => cut_step hdk (Subs.st inferInstance w hw)
    ·
      have p31 := h31
      try simp only [decide_eq_true_eq, decide_eq_false_iff_not, Bool.not_eq_true', Bool.not_eq_false', Option.isNone_iff_eq_none, ne_eq, Decidable.not_not, Int.not_lt, Int.not_le] at p31
      have hkn : k = t.segs.length := by omega
      refine T_exit ?_
      refine X_then_exit ?_
      refine X_loop_exit ?_
      refine X_block_exit ?_
      refine X_then ?_
      refine T_seq ?_
      refine T_region ?_
      refine TL_q (Qt_assign (.int .i64 _) rfl) rfl ?_
      refine TL_nil ?_
      refine X_then ?_
      refine T_ret ?_
      have hdz : x19.2.1.segs.drop k = [newN t.segs] := by rw [q1, hkn, List.drop_left]
      exact X_ret (sk, (⟨ga, gc, x19.2.1.segs.drop k, x19.2.1.siz, x19.2.1.nx, x19.2.1.bg⟩ : LS), 0) [_] Tryz.results15 ⟨rfl, trivial⟩ rfl (fun w hw => (Subs.st inferInstance w hw : St w0 (lblk lp p pre (⟨ga, gc, x19.2.1.segs.drop k, x19.2.1.siz, x19.2.1.nx, x19.2.1.bg⟩ : LS) :: lrow (⟨ga, gc, x19.2.1.segs.drop k, x19.2.1.siz, x19.2.1.nx, x19.2.1.bg⟩ : LS) :: DS.H p sk H) w).addPure ⟨by rw [← hkn]; exact hokk, fun _ => ⟨⟨fs1, rc1, by have h := hIk; rw [show (x19.2.1.segs.drop k).flatMap rc1 = (rs.map BS.l) from by rw [hdz]; simp [q3]] at h; exact h⟩, hdz, by show x19.2.1.nx = _; rw [q2, List.length_map], by show x19.2.1.siz ≤ 20000; rw [(h19.2.2 p21).2.1]; omega⟩⟩)
end Go.Proofs.YtgfbdcjamalhhaaGreatDoor
