/- The reference of disks: Now, burn, New. -/
import Derived.Test.YtededghplnoajaaDt
namespace Go.Proofs.Ytededghplnoajaa
open Go.RowKit Go.Sx
set_option maxRecDepth 100000
set_option linter.unusedSimpArgs false
set_option linter.unusedVariables false
/-- A disk of the reference. -/
structure RS where
  room : Int
  syn : FL
  pa : Option Addr
  pc : Nat
  pend : List RActV
  fuse : Int
  down : Bool
@[reducible] def rblk (q : Nat) (s : RS) : SA := blk q (.cells (RDiskV.mk s.room ⟨s.syn.a, s.syn.ls.length, s.syn.c⟩ ⟨s.pa, s.pend.length, s.pc⟩ s.fuse s.down).cells 54 (0, 0))
@[reducible] def rrow (s : RS) : SA := row (.slice s.pa s.pend.length s.pc) 34 8 (s.pend.flatMap RActV.list)
/-- What a disk of the reference asks of the heap. -/
structure RSOk (w0 : World) (H : List SA) (s : RS) (B N : Nat) : Prop where
  syn : RdC w0 H (.slice s.syn.a s.syn.ls.length s.syn.c) 2 (s.syn.ls.flatMap FileV.list)
  syb : RdE w0 H (s.syn.ls.map (·.b))
  pb : ∀ a ∈ s.pend, RdB w0 H (.slice a.b.a a.b.l.length a.b.c) a.b.l
  sl : s.syn.ls.length ≤ N
  bl : ∀ x ∈ s.syn.ls.map (·.b), x.l.length ≤ B
  pl : ∀ a ∈ s.pend, a.b.l.length ≤ 1000
  pn : s.pend.length ≤ 1000
structure NwOk (B k : Nat) (s : RS) (y : DO) : Prop where
  at_ : y.M ∈ y.fls ∨ y.M = s.syn
  rep : ∀ f, Rep s.syn.ls f → Rep y.M.ls ((s.pend.take k).foldl (fun f a => doF f (acV a)) f)
  src : ∀ g ∈ y.M.ls, g.b ∈ y.xs ∨ g.b ∈ s.syn.ls.map (·.b) ∨ (∃ a ∈ s.pend, g.b = a.b) ∨ g.b = zB
  len : y.M.ls.length ≤ s.syn.ls.length + k
  bnd : ∀ x ∈ y.xs, x.l.length ≤ B + 1000 * k
theorem NwOk.start (B : Nat) (s : RS) : NwOk B 0 s ⟨s.syn, [], [], [], []⟩ :=
  ⟨.inr rfl, fun f hf => hf, fun g hg => .inr (.inl (List.mem_map.2 ⟨g, hg, rfl⟩)), Nat.le_refl _, fun x hx => by cases hx⟩
theorem NwOk.le {B k : Nat} {s : RS} {y : DO} (h : NwOk B k s y) (hb : ∀ x ∈ s.syn.ls.map (·.b), x.l.length ≤ B) (hp : ∀ a ∈ s.pend, a.b.l.length ≤ 1000) (hB : 1000 ≤ B) : ∀ x ∈ y.M.ls.map (·.b), x.l.length ≤ B + 1000 * k := fun x hx => by
  obtain ⟨g, hg, rfl⟩ := List.mem_map.1 hx
  rcases h.src g hg with h1 | h1 | ⟨a, ha, h1⟩ | h1
  · exact h.bnd _ h1
  · have := hb _ h1; omega
  · rw [h1]; have := hp a ha; omega
  · rw [h1]; exact Nat.zero_le _
theorem NwOk.rd {w0 : World} {H : List SA} {B N k : Nat} {s : RS} {y : DO} (h : NwOk B k s y) (hs : RSOk w0 H s B N) : RdE w0 (eachA y.fo y.xs :: H) (y.M.ls.map (·.b)) := ⟨fun x hx w hw => by
  obtain ⟨g, hg, rfl⟩ := List.mem_map.1 hx
  rcases h.src g hg with h1 | h1 | ⟨a, ha, h1⟩ | h1
  · exact (RdE.own (w0 := w0) (H := H) (fp := y.fo) (ls := y.xs)).rd _ h1 w hw
  · exact hs.syb.rd _ h1 w hw.tail
  · rw [h1]; exact (hs.pb a ha).rd w hw.tail
  · rw [h1]; exact (RdB.nil' (w0 := w0) (H := [])).rd w (hw.sub ⟨_, List.Perm.refl _, List.nil_sublist _⟩)⟩
theorem NwOk.at {w0 : World} {H : List SA} {B N k : Nat} {s : RS} {y : DO} (h : NwOk B k s y) (hs : RSOk w0 H s B N) : RdC w0 (flA y.ff y.fls :: H) (.slice y.M.a y.M.ls.length y.M.c) 2 (y.M.ls.flatMap FileV.list) := by
  rcases h.at_ with h1 | h1
  · exact RdC.fl h1
  · rw [h1]; exact RdC.tail (h := hs.syn)
theorem NwOk.step {B k : Nat} {s : RS} {y z : DO} (h : NwOk B k s y) (hk : k < s.pend.length) (hp : ∀ a ∈ s.pend, a.b.l.length ≤ 1000) (hd : DoneOk (B + 1000 * k) y.M s.pend[k] z) : NwOk B (k + 1) s ⟨z.M, z.xs ++ y.xs, z.fo ++ y.fo, z.fls ++ y.fls, z.ff ++ y.ff⟩ := by
  refine ⟨?_, fun f hf => ?_, fun g hg => ?_, ?_, fun x hx => ?_⟩
  · rcases hd.at_ with h1 | h1
    · exact .inl (List.mem_append_left _ h1)
    · rcases h.at_ with h2 | h2
      · left; show z.M ∈ _; rw [h1]; exact List.mem_append_right _ h2
      · right; exact h1.trans h2
  · rw [List.take_succ_eq_append_getElem hk, List.foldl_append]
    exact hd.rep _ (h.rep f hf)
  · rcases hd.src g hg with h1 | h1 | h1 | h1
    · exact .inl (List.mem_append_left _ h1)
    · obtain ⟨g', hg', he⟩ := List.mem_map.1 h1
      rcases h.src g' hg' with h2 | h2 | h2 | h2
      · rw [he] at h2; exact .inl (List.mem_append_right _ h2)
      · rw [he] at h2; exact .inr (.inl h2)
      · rw [he] at h2; exact .inr (.inr (.inl h2))
      · rw [he] at h2; exact .inr (.inr (.inr h2))
    · exact .inr (.inr (.inl ⟨_, List.getElem_mem hk, h1⟩))
    · exact .inr (.inr (.inr h1))
  · have h1 := hd.len; have h2 := h.len
    show z.M.ls.length ≤ _; omega
  · rcases List.mem_append.1 hx with h1 | h1
    · have := hd.bnd x h1; have := hp _ (List.getElem_mem hk); omega
    · have := h.bnd x h1; omega
theorem now_merge {w0 w : World} {H : List SA} {f1 f2 g1 g2 : List Nat} {l1 l2 : List FL} {m1 m2 : List BS} (h : St w0 (flA f1 l1 :: eachA g1 m1 :: flA f2 l2 :: eachA g2 m2 :: H) w) : St w0 (flA (f1 ++ f2) (l1 ++ l2) :: eachA (g1 ++ g2) (m1 ++ m2) :: H) w := by
  have h1 : St w0 (flA f1 l1 :: flA f2 l2 :: eachA g1 m1 :: eachA g2 m2 :: H) w := Subs.st inferInstance w h
  have h2 : St w0 (eachA g1 m1 :: eachA g2 m2 :: flA (f1 ++ f2) (l1 ++ l2) :: H) w := Subs.st inferInstance w (St.flJoin h1)
  exact Subs.st inferInstance w (St.eachJoin h2)

set_option maxHeartbeats 1000000 in
theorem rnow_c {w0 : World} {H : List SA} {q : Nat} {s : RS} {B N : Nat} (hs : RSOk w0 H s B N) (hN : N ≤ 50000) (hB : 1000 ≤ B) (hBm : B ≤ 1000000000) :
    CT Try.prog w0 (rblk q s :: rrow s :: H) 24 [.pointer (some ⟨q, 0, none⟩)] (α := DO) (fun y => .slice y.M.a y.M.ls.length y.M.c) (fun y => pu (NwOk B s.pend.length s y) :: flA y.ff y.fls :: eachA y.fo y.xs :: rblk q s :: rrow s :: H) := by
  refine CT_intro Try.func24 rfl Try.ntmps24 rfl ?_
  refine T_seq ?_
  refine T_region ?_
  refine TL_q (Qt_assign (.slice _ _ _) rfl) rfl ?_
  refine TL_nil ?_
  refine X_then ?_
  refine T_seq ?_
  refine T_region ?_
  refine TL_q (Qt_move (.pointer _) rfl) rfl ?_
  refine TL_q (Qt_nilCheck rfl) rfl ?_
  refine TL_q (Qt_fieldAddr 1 rfl rfl) rfl ?_
  refine TL_q (Qt_load1 rfl) rfl ?_
  refine TL_q (Qt_assign (.slice _ _ _) rfl) rfl ?_
  refine TL_nil ?_
  refine X_then ?_
  refine T_seq ?_
  refine T_seq ?_
  refine T_region ?_
  refine TL_q (Qt_assign (.int .i64 _) rfl) rfl ?_
  refine TL_nil ?_
  refine X_then ?_
  refine T_block ?_
  have hpn := hs.pn
  refine T_loop [3, 4, 9, 10, 11, 12, 13, 14, 15, 16, 17, 18, 19, 20, 21, 22, 23, 24, 25, 26] [4, 3] (fun us H' => ∃ (k : Nat) (y : DO), us = [.int .i64 (k : Int), .slice y.M.a y.M.ls.length y.M.c] ∧ flA y.ff y.fls :: eachA y.fo y.xs :: rblk q s :: rrow s :: H = H' ∧ k ≤ s.pend.length ∧ (NwOk B k s y)) (fun us => match us with | .int _ i :: _ => s.pend.length - i.toNat | _ => 0) ⟨0, ⟨s.syn, [], [], [], []⟩, rfl, rfl, by omega, NwOk.start B s⟩ (fun w hw => St.flNil ((Subs.st inferInstance w hw : St w0 (rblk q s :: rrow s :: H) w).eachNil)) ?_
  rintro τ0 _ _  ⟨k, y, rfl, rfl, hk0, hy⟩ _
  refine T_seq ?_
  refine T_seq ?_
  refine T_region ?_
  refine TL_q (Qt_move (.int .i64 _) rfl) rfl ?_
  refine TL_q (Qt_move (.pointer _) rfl) rfl ?_
  refine TL_q (Qt_nilCheck rfl) rfl ?_
  refine TL_q (Qt_fieldAddr 2 rfl rfl) rfl ?_
  refine TL_q (Qt_load1 rfl) rfl ?_
  refine TL_q (Qt_len_slice rfl Try.underlying22) rfl ?_
  refine TL_q (Qt_lss rfl rfl) rfl ?_
  refine TL_nil ?_
  refine X_then ?_
  refine T_cond rfl (fun h15 => ?_) (fun h15 => ?_)
  ·
    have p15 := h15
    try simp only [decide_eq_true_eq, decide_eq_false_iff_not, Bool.not_eq_true', Bool.not_eq_false', Option.isNone_iff_eq_none, ne_eq, Decidable.not_not, Int.not_lt, Int.not_le] at p15
    have hk : k < s.pend.length := by omega
    refine T_skip ?_
    refine X_then ?_
    refine T_seq ?_
    refine T_block ?_
    refine T_region ?_
    refine TL_q (Qt_move (.slice _ _ _) rfl) rfl ?_
    refine TL_q (Qt_move (.pointer _) rfl) rfl ?_
    refine TL_q (Qt_nilCheck rfl) rfl ?_
    refine TL_q (Qt_fieldAddr 2 rfl rfl) rfl ?_
    refine TL_q (Qt_load1 rfl) rfl ?_
    refine TL_q (Qt_move (.int .i64 _) rfl) rfl ?_
    refine TL_q (Qt_indexN rfl rfl (by omega) (by omega)) rfl ?_
    refine TL_q (Qt_val (Qt_loadRN 8 s.pend[k].list rfl (flat_slice _ 8 RActV.list_len s.pend k hk) (RActV.list_len _) (by decide)) (show Value.agg s.pend[k].list.toArray = Value.agg s.pend[k].cells from rfl)) rfl ?_
    have hat : RdC w0 (flA y.ff y.fls :: eachA y.fo y.xs :: rblk q s :: rrow s :: H) (.slice y.M.a y.M.ls.length y.M.c) 2 (y.M.ls.flatMap FileV.list) := ⟨fun w hw => (hy.at hs).rd w (Subs.st inferInstance w hw)⟩
    have hre : RdE w0 (flA y.ff y.fls :: eachA y.fo y.xs :: rblk q s :: rrow s :: H) (y.M.ls.map (·.b)) := ⟨fun x hx w hw => (hy.rd hs).rd x hx w (Subs.st inferInstance w hw)⟩
    have hpb := hs.pb _ (List.getElem_mem hk)
    refine TL_e rfl (Ef_call (rdone_c (L := y.M.ls) (a := y.M.a) (c := y.M.c) (ra := s.pend[k]) (B := B + 1000 * k) (by have := hy.len; have := hs.sl; have := hs.pn; omega) hre (hy.le hs.bl hs.pl hB) (by have := hs.pn; omega) (hs.pl _ (List.getElem_mem hk))) rfl (fun x26 => ?_))
    refine TL_pure (fun h26 => ?_)
    refine TL_q (Qt_assign (.slice _ _ _) rfl) rfl ?_
    refine TL_nil ?_
    refine X_block ?_
    refine X_then ?_
    refine T_region ?_
    refine TL_q (Qt_move (.int .i64 _) rfl) rfl ?_
    first
      | refine TL_q (Qt_add rfl rfl (by omega) (by omega)) rfl ?_
      | refine TL_q (Qt_addw rfl rfl) rfl ?_
    refine TL_q (Qt_assign (.int .i64 _) rfl) rfl ?_
    refine TL_nil ?_
    apply X_loop
    case ha => exact (by repeat (first | with_reducible exact agree_refl | refine agree_upd rfl ?_ | refine agree_mix rfl ?_ | refine agree_setAll rfl ?_))
    case hI => exact ⟨k + 1, ⟨x26.M, x26.xs ++ y.xs, x26.fo ++ y.fo, x26.fls ++ y.fls, x26.ff ++ y.ff⟩, rfl, rfl, by omega, hy.step hk hs.pl h26⟩
    case hm => exact by show s.pend.length - (k + 1 : Int).toNat < s.pend.length - (k : Int).toNat; omega
    case hH => exact (fun w hw => now_merge (Subs.st inferInstance w hw))
  ·
    have p15 := h15
    try simp only [decide_eq_true_eq, decide_eq_false_iff_not, Bool.not_eq_true', Bool.not_eq_false', Option.isNone_iff_eq_none, ne_eq, Decidable.not_not, Int.not_lt, Int.not_le] at p15
    obtain rfl : k = s.pend.length := by omega
    refine T_exit ?_
    refine X_then_exit ?_
    refine X_loop_exit ?_
    refine X_block_exit ?_
    refine X_then ?_
    refine T_seq ?_
    refine T_region ?_
    refine TL_q (Qt_move (.slice _ _ _) rfl) rfl ?_
    refine TL_q (Qt_assign (.slice _ _ _) rfl) rfl ?_
    refine TL_nil ?_
    refine X_then ?_
    refine T_ret ?_
    exact X_ret y [_] Try.results24 ⟨rfl, trivial⟩ rfl (fun w hw => (Subs.st inferInstance w hw : St w0 (flA y.ff y.fls :: eachA y.fo y.xs :: rblk q s :: rrow s :: H) w).addPure hy)
set_option maxHeartbeats 1000000 in
theorem rburn_c {w0 : World} {H : List SA} {q : Nat} {room : Int} {sy pe : Sl} {fuse : Int} {down : Bool} (hf : fuse ≤ 9223372036854775807) :
    CT Try.prog w0 (blk q (.cells (RDiskV.mk room sy pe fuse down).cells 54 (0, 0)) :: H) 42 [.pointer (some ⟨q, 0, none⟩)] (α := Unit) (fun _ => .bool (!burnD fuse down)) (fun _ => blk q (.cells (RDiskV.mk room sy pe (burnF fuse) (burnD fuse down)).cells 54 (0, 0)) :: H) := by
  refine CT_intro Try.func42 rfl Try.ntmps42 rfl ?_
  refine T_seq ?_
  refine T_region ?_
  refine TL_q (Qt_assign (.bool _) rfl) rfl ?_
  refine TL_nil ?_
  refine X_then ?_
  refine T_seq ?_
  refine T_seq ?_
  refine T_region ?_
  refine TL_q (Qt_move (.pointer _) rfl) rfl ?_
  refine TL_q (Qt_nilCheck rfl) rfl ?_
  refine TL_q (Qt_fieldAddr 3 rfl rfl) rfl ?_
  refine TL_q (Qt_load1 rfl) rfl ?_
  refine TL_q (Qt_eql rfl rfl) rfl ?_
  refine TL_nil ?_
  refine X_then ?_
  refine T_cond rfl (fun h7 => ?_) (fun h7 => ?_)
  ·
    have p7 := h7
    try simp only [decide_eq_true_eq, decide_eq_false_iff_not, Bool.not_eq_true', Bool.not_eq_false', Option.isNone_iff_eq_none, ne_eq, Decidable.not_not, Int.not_lt, Int.not_le] at p7
    refine T_region ?_
    refine TL_q (Qt_move (.pointer _) rfl) rfl ?_
    refine TL_q (Qt_nilCheck rfl) rfl ?_
    refine TL_q (Qt_fieldAddr 4 rfl rfl) rfl ?_
    refine TL_n (Ef_store1 (.bool _) rfl rfl (?_))
    refine TL_nil ?_
    refine X_then ?_
    refine T_seq ?_
    refine T_seq ?_
    refine T_region ?_
    refine TL_q (Qt_move (.pointer _) rfl) rfl ?_
    refine TL_q (Qt_nilCheck rfl) rfl ?_
    refine TL_q (Qt_fieldAddr 3 rfl rfl) rfl ?_
    refine TL_q (Qt_load1 rfl) rfl ?_
    refine TL_q (Qt_gtr rfl rfl) rfl ?_
    refine TL_nil ?_
    refine X_then ?_
    refine T_cond rfl (fun h15 => ?_) (fun h15 => ?_)
    ·
      have p15 := h15
      try simp only [decide_eq_true_eq, decide_eq_false_iff_not, Bool.not_eq_true', Bool.not_eq_false', Option.isNone_iff_eq_none, ne_eq, Decidable.not_not, Int.not_lt, Int.not_le] at p15
      refine T_region ?_
      refine TL_q (Qt_move (.pointer _) rfl) rfl ?_
      refine TL_q (Qt_nilCheck rfl) rfl ?_
      refine TL_q (Qt_fieldAddr 3 rfl rfl) rfl ?_
      refine TL_q (Qt_load1 rfl) rfl ?_
      first
        | refine TL_q (Qt_sub rfl rfl (by omega) (by omega)) rfl ?_
        | refine TL_q (Qt_subw rfl rfl) rfl ?_
      refine TL_q (Qt_nilCheck rfl) rfl ?_
      refine TL_q (Qt_fieldAddr 3 rfl rfl) rfl ?_
      refine TL_n (Ef_store1 (.int .i64 _) rfl rfl (?_))
      refine TL_nil ?_
      refine X_then ?_
      refine T_seq ?_
      refine T_region ?_
      refine TL_q (Qt_move (.pointer _) rfl) rfl ?_
      refine TL_q (Qt_nilCheck rfl) rfl ?_
      refine TL_q (Qt_fieldAddr 4 rfl rfl) rfl ?_
      refine TL_q (Qt_load1 rfl) rfl ?_
      refine TL_q (Qt_not rfl) rfl ?_
      refine TL_q (Qt_assign (.bool _) rfl) rfl ?_
      refine TL_nil ?_
      refine X_then ?_
      refine T_ret ?_
      exfalso; omega
    ·
      have p15 := h15
      try simp only [decide_eq_true_eq, decide_eq_false_iff_not, Bool.not_eq_true', Bool.not_eq_false', Option.isNone_iff_eq_none, ne_eq, Decidable.not_not, Int.not_lt, Int.not_le] at p15
      refine T_skip ?_
      refine X_then ?_
      refine T_seq ?_
      refine T_region ?_
      refine TL_q (Qt_move (.pointer _) rfl) rfl ?_
      refine TL_q (Qt_nilCheck rfl) rfl ?_
      refine TL_q (Qt_fieldAddr 4 rfl rfl) rfl ?_
      refine TL_q (Qt_load1 rfl) rfl ?_
      refine TL_q (Qt_not rfl) rfl ?_
      refine TL_q (Qt_assign (.bool _) rfl) rfl ?_
      refine TL_nil ?_
      refine X_then ?_
      refine T_ret ?_
      have e1 : burnF fuse = fuse := by unfold burnF; rw [if_neg (by omega)]
      have e2 : burnD fuse down = true := by unfold burnD; rw [if_pos (by omega)]
      exact X_ret () [_] Try.results42 ⟨rfl, trivial⟩ (by rw [e2]; rfl) (fun w hw => by rw [e1, e2]; exact Subs.st inferInstance w hw)
  ·
    have p7 := h7
    try simp only [decide_eq_true_eq, decide_eq_false_iff_not, Bool.not_eq_true', Bool.not_eq_false', Option.isNone_iff_eq_none, ne_eq, Decidable.not_not, Int.not_lt, Int.not_le] at p7
    refine T_skip ?_
    refine X_then ?_
    refine T_seq ?_
    refine T_seq ?_
    refine T_region ?_
    refine TL_q (Qt_move (.pointer _) rfl) rfl ?_
    refine TL_q (Qt_nilCheck rfl) rfl ?_
    refine TL_q (Qt_fieldAddr 3 rfl rfl) rfl ?_
    refine TL_q (Qt_load1 rfl) rfl ?_
    refine TL_q (Qt_gtr rfl rfl) rfl ?_
    refine TL_nil ?_
    refine X_then ?_
    refine T_cond rfl (fun h15 => ?_) (fun h15 => ?_)
    ·
      have p15 := h15
      try simp only [decide_eq_true_eq, decide_eq_false_iff_not, Bool.not_eq_true', Bool.not_eq_false', Option.isNone_iff_eq_none, ne_eq, Decidable.not_not, Int.not_lt, Int.not_le] at p15
      refine T_region ?_
      refine TL_q (Qt_move (.pointer _) rfl) rfl ?_
      refine TL_q (Qt_nilCheck rfl) rfl ?_
      refine TL_q (Qt_fieldAddr 3 rfl rfl) rfl ?_
      refine TL_q (Qt_load1 rfl) rfl ?_
      first
        | refine TL_q (Qt_sub rfl rfl (by omega) (by omega)) rfl ?_
        | refine TL_q (Qt_subw rfl rfl) rfl ?_
      refine TL_q (Qt_nilCheck rfl) rfl ?_
      refine TL_q (Qt_fieldAddr 3 rfl rfl) rfl ?_
      refine TL_n (Ef_store1 (.int .i64 _) rfl rfl (?_))
      refine TL_nil ?_
      refine X_then ?_
      refine T_seq ?_
      refine T_region ?_
      refine TL_q (Qt_move (.pointer _) rfl) rfl ?_
      refine TL_q (Qt_nilCheck rfl) rfl ?_
      refine TL_q (Qt_fieldAddr 4 rfl rfl) rfl ?_
      refine TL_q (Qt_load1 rfl) rfl ?_
      refine TL_q (Qt_not rfl) rfl ?_
      refine TL_q (Qt_assign (.bool _) rfl) rfl ?_
      refine TL_nil ?_
      refine X_then ?_
      refine T_ret ?_
      have e1 : burnF fuse = fuse - 1 := by unfold burnF; rw [if_pos (by omega)]
      have e2 : burnD fuse down = down := by unfold burnD; rw [if_neg (by omega)]
      exact X_ret () [_] Try.results42 ⟨rfl, trivial⟩ (by rw [e2]; rfl) (fun w hw => by rw [e1, e2]; exact Subs.st inferInstance w hw)
    ·
      have p15 := h15
      try simp only [decide_eq_true_eq, decide_eq_false_iff_not, Bool.not_eq_true', Bool.not_eq_false', Option.isNone_iff_eq_none, ne_eq, Decidable.not_not, Int.not_lt, Int.not_le] at p15
      refine T_skip ?_
      refine X_then ?_
      refine T_seq ?_
      refine T_region ?_
      refine TL_q (Qt_move (.pointer _) rfl) rfl ?_
      refine TL_q (Qt_nilCheck rfl) rfl ?_
      refine TL_q (Qt_fieldAddr 4 rfl rfl) rfl ?_
      refine TL_q (Qt_load1 rfl) rfl ?_
      refine TL_q (Qt_not rfl) rfl ?_
      refine TL_q (Qt_assign (.bool _) rfl) rfl ?_
      refine TL_nil ?_
      refine X_then ?_
      refine T_ret ?_
      have e1 : burnF fuse = fuse := by unfold burnF; rw [if_neg (by omega)]
      have e2 : burnD fuse down = down := by unfold burnD; rw [if_neg (by omega)]
      exact X_ret () [_] Try.results42 ⟨rfl, trivial⟩ (by rw [e2]; rfl) (fun w hw => by rw [e1, e2]; exact Subs.st inferInstance w hw)
set_option maxHeartbeats 1000000 in
theorem rnamed_c {w0 : World} {H : List SA} {s : ByteArray} :
    CT Try.prog w0 (H) 44 [.string s] (α := Unit) (fun _ => .bool (namedB s)) (fun _ => H) := by
  refine CT_intro Try.func44 rfl Try.ntmps44 rfl ?_
  refine T_seq ?_
  refine T_region ?_
  refine TL_q (Qt_assign (.bool _) rfl) rfl ?_
  refine TL_nil ?_
  refine X_then ?_
  refine T_seq ?_
  refine T_region ?_
  refine TL_q (Qt_move (.string _) rfl) rfl ?_
  refine TL_q (Qt_len_string rfl Try.underlying9) rfl ?_
  refine TL_q (Qt_geq rfl rfl) rfl ?_
  refine TL_q (Qt_move (.bool _) rfl) rfl ?_
  refine TL_split 6 rfl (fun h6 => ?_) (fun h6 => ?_)
  ·
    have p6 := h6
    try simp only [decide_eq_true_eq, decide_eq_false_iff_not, Bool.not_eq_true', Bool.not_eq_false', Option.isNone_iff_eq_none, ne_eq, Decidable.not_not, Int.not_lt, Int.not_le] at p6
    refine TL_take rfl rfl h6 ?_
    refine TL_q (Qt_move (.string _) rfl) rfl ?_
    refine TL_take rfl rfl h6 ?_
    refine TL_q (Qt_len_string rfl Try.underlying9) rfl ?_
    refine TL_take rfl rfl h6 ?_
    refine TL_q (Qt_leq rfl rfl) rfl ?_
    refine TL_q (Qt_pick_t (.bool _) rfl h6 rfl) rfl ?_
    refine TL_q (Qt_assign (.bool _) rfl) rfl ?_
    refine TL_nil ?_
    refine X_then ?_
    refine T_ret ?_
    refine X_ret () [.bool (namedB s)] Try.results44 ⟨?_, trivial⟩ rfl (Subs.st inferInstance)
    refine congrArg Value.bool ?_
    rw [Bool.eq_iff_iff]
    simp only [namedB, decide_eq_true_eq, Bool.false_eq_true, false_iff]
    omega
  ·
    have p6 := h6
    try simp only [decide_eq_true_eq, decide_eq_false_iff_not, Bool.not_eq_true', Bool.not_eq_false', Option.isNone_iff_eq_none, ne_eq, Decidable.not_not, Int.not_lt, Int.not_le] at p6
    refine TL_pass rfl rfl h6 rfl ?_
    refine TL_pass rfl rfl h6 rfl ?_
    refine TL_pass rfl rfl h6 rfl ?_
    refine TL_q (Qt_pick_f (.bool _) rfl h6 rfl) rfl ?_
    refine TL_q (Qt_assign (.bool _) rfl) rfl ?_
    refine TL_nil ?_
    refine X_then ?_
    refine T_ret ?_
    refine X_ret () [.bool (namedB s)] Try.results44 ⟨?_, trivial⟩ rfl (Subs.st inferInstance)
    refine congrArg Value.bool ?_
    rw [Bool.eq_iff_iff]
    simp only [namedB, decide_eq_true_eq, Bool.false_eq_true, false_iff]
    omega
@[reducible] def newR (n : Int) : RS := ⟨roomOf n, ⟨none, 0, []⟩, none, 0, [], -1, false⟩
theorem room_is {n m : Int} (h : m = if n < 0 then 0 else if 1048576 < n then 1048576 else n) : roomOf n = m := by
  subst h; unfold roomOf; split <;> split <;> split <;> omega
set_option maxHeartbeats 1000000 in
theorem rnew_c {w0 : World} {H : List SA} {n : Int} :
    CT Try.prog w0 (H) 21 [.int .i64 n] (α := Nat) (fun q => .pointer (some ⟨q, 0, none⟩)) (fun q => rblk q (newR n) :: rrow (newR n) :: H) := by
  refine CT_intro Try.func21 rfl Try.ntmps21 rfl ?_
  refine T_seq ?_
  refine T_region ?_
  refine TL_q (Qt_assign (.pointer _) rfl) rfl ?_
  refine TL_nil ?_
  refine X_then ?_
  refine T_seq ?_
  refine T_seq ?_
  refine T_region ?_
  refine TL_q (Qt_move (.int .i64 _) rfl) rfl ?_
  refine TL_q (Qt_lss rfl rfl) rfl ?_
  refine TL_nil ?_
  refine X_then ?_
  refine T_cond rfl (fun h4 => ?_) (fun h4 => ?_)
  ·
    have p4 := h4
    try simp only [decide_eq_true_eq, decide_eq_false_iff_not, Bool.not_eq_true', Bool.not_eq_false', Option.isNone_iff_eq_none, ne_eq, Decidable.not_not, Int.not_lt, Int.not_le] at p4
    refine T_region ?_
    refine TL_q (Qt_assign (.int .i64 _) rfl) rfl ?_
    refine TL_nil ?_
    refine X_then ?_
    refine T_seq ?_
    refine T_seq ?_
    refine T_region ?_
    refine TL_q (Qt_move (.int .i64 _) rfl) rfl ?_
    refine TL_q (Qt_gtr rfl rfl) rfl ?_
    refine TL_nil ?_
    refine X_then ?_
    refine T_cond rfl (fun h6 => ?_) (fun h6 => ?_)
    ·
      have p6 := h6
      try simp only [decide_eq_true_eq, decide_eq_false_iff_not, Bool.not_eq_true', Bool.not_eq_false', Option.isNone_iff_eq_none, ne_eq, Decidable.not_not, Int.not_lt, Int.not_le] at p6
      refine T_region ?_
      refine TL_q (Qt_assign (.int .i64 _) rfl) rfl ?_
      refine TL_nil ?_
      refine X_then ?_
      refine T_seq ?_
      refine T_region ?_
      refine TL_q (Qt_move (.int .i64 _) rfl) rfl ?_
      refine TL_q (Qt_build [(0, (.int .i64 _)), (3, (.int .i64 _))] rfl (by kernel_rfl)) rfl ?_
      refine TL_e rfl (Ef_boxN rfl (fun b9 => ?_))
      refine TL_q (Qt_assign (.pointer _) rfl) rfl ?_
      refine TL_nil ?_
      refine X_then ?_
      refine T_ret ?_
      exfalso; omega
    ·
      have p6 := h6
      try simp only [decide_eq_true_eq, decide_eq_false_iff_not, Bool.not_eq_true', Bool.not_eq_false', Option.isNone_iff_eq_none, ne_eq, Decidable.not_not, Int.not_lt, Int.not_le] at p6
      refine T_skip ?_
      refine X_then ?_
      refine T_seq ?_
      refine T_region ?_
      refine TL_q (Qt_move (.int .i64 _) rfl) rfl ?_
      refine TL_q (Qt_build [(0, (.int .i64 _)), (3, (.int .i64 _))] rfl (by kernel_rfl)) rfl ?_
      refine TL_e rfl (Ef_boxN rfl (fun b9 => ?_))
      refine TL_q (Qt_assign (.pointer _) rfl) rfl ?_
      refine TL_nil ?_
      refine X_then ?_
      refine T_ret ?_
      have e : roomOf n = 0 := room_is (by first | (rw [if_pos (by omega)]; done) | (rw [if_pos (by omega)]) | (rw [if_neg (by omega), if_pos (by omega)]) | (rw [if_neg (by omega), if_neg (by omega)]))
      exact X_ret b9 [_] Try.results21 ⟨rfl, trivial⟩ rfl (fun w hw => by
          have h1 : St w0 (blk b9 (.cells (RDiskV.mk (roomOf n) ⟨none, 0, 0⟩ ⟨none, 0, 0⟩ (-1) false).cells 54 (0, 0)) :: H) w := by rw [e]; exact Subs.st inferInstance w hw
          have h2 : St w0 (blk b9 (.cells (RDiskV.mk (roomOf n) ⟨none, 0, 0⟩ ⟨none, 0, 0⟩ (-1) false).cells 54 (0, 0)) :: row (.slice none 0 0) 34 8 [] :: H) w := Subs.st inferInstance w (h1.addNil 34 8)
          exact h2)
  ·
    have p4 := h4
    try simp only [decide_eq_true_eq, decide_eq_false_iff_not, Bool.not_eq_true', Bool.not_eq_false', Option.isNone_iff_eq_none, ne_eq, Decidable.not_not, Int.not_lt, Int.not_le] at p4
    refine T_skip ?_
    refine X_then ?_
    refine T_seq ?_
    refine T_seq ?_
    refine T_region ?_
    refine TL_q (Qt_move (.int .i64 _) rfl) rfl ?_
    refine TL_q (Qt_gtr rfl rfl) rfl ?_
    refine TL_nil ?_
    refine X_then ?_
    refine T_cond rfl (fun h6 => ?_) (fun h6 => ?_)
    ·
      have p6 := h6
      try simp only [decide_eq_true_eq, decide_eq_false_iff_not, Bool.not_eq_true', Bool.not_eq_false', Option.isNone_iff_eq_none, ne_eq, Decidable.not_not, Int.not_lt, Int.not_le] at p6
      refine T_region ?_
      refine TL_q (Qt_assign (.int .i64 _) rfl) rfl ?_
      refine TL_nil ?_
      refine X_then ?_
      refine T_seq ?_
      refine T_region ?_
      refine TL_q (Qt_move (.int .i64 _) rfl) rfl ?_
      refine TL_q (Qt_build [(0, (.int .i64 _)), (3, (.int .i64 _))] rfl (by kernel_rfl)) rfl ?_
      refine TL_e rfl (Ef_boxN rfl (fun b9 => ?_))
      refine TL_q (Qt_assign (.pointer _) rfl) rfl ?_
      refine TL_nil ?_
      refine X_then ?_
      refine T_ret ?_
      have e : roomOf n = 1048576 := room_is (by first | (rw [if_pos (by omega)]; done) | (rw [if_pos (by omega)]) | (rw [if_neg (by omega), if_pos (by omega)]) | (rw [if_neg (by omega), if_neg (by omega)]))
      exact X_ret b9 [_] Try.results21 ⟨rfl, trivial⟩ rfl (fun w hw => by
          have h1 : St w0 (blk b9 (.cells (RDiskV.mk (roomOf n) ⟨none, 0, 0⟩ ⟨none, 0, 0⟩ (-1) false).cells 54 (0, 0)) :: H) w := by rw [e]; exact Subs.st inferInstance w hw
          have h2 : St w0 (blk b9 (.cells (RDiskV.mk (roomOf n) ⟨none, 0, 0⟩ ⟨none, 0, 0⟩ (-1) false).cells 54 (0, 0)) :: row (.slice none 0 0) 34 8 [] :: H) w := Subs.st inferInstance w (h1.addNil 34 8)
          exact h2)
    ·
      have p6 := h6
      try simp only [decide_eq_true_eq, decide_eq_false_iff_not, Bool.not_eq_true', Bool.not_eq_false', Option.isNone_iff_eq_none, ne_eq, Decidable.not_not, Int.not_lt, Int.not_le] at p6
      refine T_skip ?_
      refine X_then ?_
      refine T_seq ?_
      refine T_region ?_
      refine TL_q (Qt_move (.int .i64 _) rfl) rfl ?_
      refine TL_q (Qt_build [(0, (.int .i64 _)), (3, (.int .i64 _))] rfl (by kernel_rfl)) rfl ?_
      refine TL_e rfl (Ef_boxN rfl (fun b9 => ?_))
      refine TL_q (Qt_assign (.pointer _) rfl) rfl ?_
      refine TL_nil ?_
      refine X_then ?_
      refine T_ret ?_
      have e : roomOf n = n := room_is (by first | (rw [if_pos (by omega)]; done) | (rw [if_pos (by omega)]) | (rw [if_neg (by omega), if_pos (by omega)]) | (rw [if_neg (by omega), if_neg (by omega)]))
      exact X_ret b9 [_] Try.results21 ⟨rfl, trivial⟩ rfl (fun w hw => by
          have h1 : St w0 (blk b9 (.cells (RDiskV.mk (roomOf n) ⟨none, 0, 0⟩ ⟨none, 0, 0⟩ (-1) false).cells 54 (0, 0)) :: H) w := by rw [e]; exact Subs.st inferInstance w hw
          have h2 : St w0 (blk b9 (.cells (RDiskV.mk (roomOf n) ⟨none, 0, 0⟩ ⟨none, 0, 0⟩ (-1) false).cells 54 (0, 0)) :: row (.slice none 0 0) 34 8 [] :: H) w := Subs.st inferInstance w (h1.addNil 34 8)
          exact h2)
end Go.Proofs.Ytededghplnoajaa
