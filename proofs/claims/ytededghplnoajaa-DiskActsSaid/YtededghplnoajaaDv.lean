/- The reference of disks: crash. -/
import Derived.Test.YtededghplnoajaaDu
namespace Go.Proofs.Ytededghplnoajaa
open Go.RowKit Go.Sx
set_option maxRecDepth 100000
set_option linter.unusedSimpArgs false
set_option linter.unusedVariables false
theorem DLS_conv {P : Program} {n : Fr} {w0 : World} {S : List SA} {ops : Array Oper} {fuel : Nat} {listed : Array Bool} {i : Nat} {σ : Env} {H H' : List SA} {Q : Post} (hs : ∀ w, St w0 H w → St w0 H' w) (h : DLS P n w0 S ops fuel listed i σ H' Q) : DLS P n w0 S ops fuel listed i σ H Q := fun a w ha hw hS => h a w ha (hs w hw) hS
/-- What was laid so far: lists of files, and bytes. -/
structure PL where
  ff : List Nat
  fls : List FL
  fo : List Nat
  xs : List BS
@[reducible] def PL.add (P : PL) (y : DO) : PL := ⟨y.ff ++ P.ff, y.fls ++ P.fls, y.fo ++ P.fo, y.xs ++ P.xs⟩
structure RI (Src : BS → Prop) (s : RS) (P : PL) (B N : Nat) : Prop where
  at_ : s.syn ∈ P.fls ∨ s.syn = ⟨none, 0, []⟩
  src : ∀ g ∈ s.syn.ls, g.b ∈ P.xs ∨ Src g.b ∨ g.b = zB
  pb : ∀ a ∈ s.pend, ∀ m, Src ⟨a.b.a, a.b.c, a.b.l.take m⟩
  sl : s.syn.ls.length ≤ N
  bl : ∀ x ∈ s.syn.ls.map (·.b), x.l.length ≤ B
  pl : ∀ a ∈ s.pend, a.b.l.length ≤ 1000
  pn : s.pend.length ≤ 1000
theorem RI.own {Src : BS → Prop} {s : RS} {P : PL} {B N : Nat} (h : RI Src s P B N) {a : RActV} (ha : a ∈ s.pend) : Src a.b := by
  have := h.pb a ha a.b.l.length
  rwa [List.take_length] at this
theorem RI.ok {w0 : World} {H : List SA} {Src : BS → Prop} {s : RS} {P : PL} {B N : Nat} (h : RI Src s P B N) (hS : ∀ b : BS, Src b → RdB w0 H (.slice b.a b.l.length b.c) b.l) : RSOk w0 (flA P.ff P.fls :: eachA P.fo P.xs :: H) s B N := by
  refine ⟨?_, ⟨fun x hx w hw => ?_⟩, fun a ha => ⟨fun w hw => (hS _ (h.own ha)).rd w hw.tail.tail⟩, h.sl, h.bl, h.pl, h.pn⟩
  · rcases h.at_ with h1 | h1
    · exact RdC.fl h1
    · rw [h1]; exact ⟨fun w hw => ⟨none, 0, 0, rfl, by simp, Nat.le_refl _, by unfold maxLen; omega, by simp⟩⟩
  · obtain ⟨g, hg, rfl⟩ := List.mem_map.1 hx
    rcases h.src g hg with h1 | h1 | h1
    · exact (RdE.own (w0 := w0) (H := H) (fp := P.fo) (ls := P.xs)).rd _ h1 w hw.tail
    · exact (hS _ h1).rd w hw.tail.tail
    · rw [h1]; exact (RdB.nil' (w0 := w0) (H := H)).rd w hw.tail.tail
theorem RI.more {Src : BS → Prop} {s : RS} {P : PL} {B N : Nat} (h : RI Src s P B N) (y : DO) {B' N' : Nat} (hB : B ≤ B') (hN : N ≤ N') : RI Src s (P.add y) B' N' :=
  ⟨h.at_.imp (fun h => List.mem_append_right _ h) id, fun g hg => (h.src g hg).imp (fun h => List.mem_append_right _ h) id, h.pb, by have := h.sl; omega, fun x hx => by have := h.bl x hx; omega, h.pl, h.pn⟩
theorem RI.mono {Src : BS → Prop} {s : RS} {P : PL} {B N B' N' : Nat} (h : RI Src s P B N) (hB : B ≤ B') (hN : N ≤ N') : RI Src s P B' N' :=
  ⟨h.at_, h.src, h.pb, by have := h.sl; omega, fun x hx => by have := h.bl x hx; omega, h.pl, h.pn⟩
/-- Behind Done. -/
theorem RI.done {Src : BS → Prop} {s : RS} {P : PL} {B N : Nat} {ra : RActV} {y : DO} (h : RI Src s P B N) (hd : DoneOk B s.syn ra y) (hr : Src ra.b) (hb : ra.b.l.length ≤ 1000) (hB : 1000 ≤ B) : RI Src { s with syn := y.M } (P.add y) (B + 1000) (N + 1) := by
  refine ⟨?_, fun g hg => ?_, h.pb, ?_, fun x hx => ?_, h.pl, h.pn⟩
  · rcases hd.at_ with h1 | h1
    · exact .inl (List.mem_append_left _ h1)
    · rcases h.at_ with h2 | h2
      · left; show y.M ∈ _; rw [h1]; exact List.mem_append_right _ h2
      · right; exact h1.trans h2
  · rcases hd.src g hg with h1 | h1 | h1 | h1
    · exact .inl (List.mem_append_left _ h1)
    · obtain ⟨g', hg', he⟩ := List.mem_map.1 h1
      rcases h.src g' hg' with h2 | h2 | h2
      · rw [he] at h2; exact .inl (List.mem_append_right _ h2)
      · rw [he] at h2; exact .inr (.inl h2)
      · rw [he] at h2; exact .inr (.inr h2)
    · rw [h1]; exact .inr (.inl hr)
    · exact .inr (.inr h1)
  · have h1 := hd.len; have h2 := h.sl; show y.M.ls.length ≤ _; omega
  · obtain ⟨g, hg, rfl⟩ := List.mem_map.1 hx
    rcases hd.src g hg with h1 | h1 | h1 | h1
    · have := hd.bnd _ h1; omega
    · have := h.bl _ h1; omega
    · rw [h1]; omega
    · rw [h1]; exact Nat.zero_le _
/-- Behind Now, where what is there is what was synced. -/
theorem RI.now {Src : BS → Prop} {s : RS} {P : PL} {B N : Nat} {y : DO} (h : RI Src s P B N) (hd : NwOk B s.pend.length s y) (hB : 1000 ≤ B) (pa : Option Addr) (pc : Nat) (fu : Int) (dn : Bool) : RI Src ⟨s.room, y.M, pa, pc, [], fu, dn⟩ (P.add y) (B + 1000 * s.pend.length) (N + s.pend.length) := by
  refine ⟨?_, fun g hg => ?_, (fun a ha => by cases ha), ?_, hd.le h.bl h.pl hB, (fun a ha => by cases ha), Nat.zero_le _⟩
  · rcases hd.at_ with h1 | h1
    · exact .inl (List.mem_append_left _ h1)
    · rcases h.at_ with h2 | h2
      · left; show y.M ∈ _; rw [h1]; exact List.mem_append_right _ h2
      · right; exact h1.trans h2
  · rcases hd.src g hg with h1 | h1 | ⟨a, ha, h1⟩ | h1
    · exact .inl (List.mem_append_left _ h1)
    · obtain ⟨g', hg', he⟩ := List.mem_map.1 h1
      rcases h.src g' hg' with h2 | h2 | h2
      · rw [he] at h2; exact .inl (List.mem_append_right _ h2)
      · rw [he] at h2; exact .inr (.inl h2)
      · rw [he] at h2; exact .inr (.inr h2)
    · rw [h1]; exact .inr (.inl (h.own ha))
    · exact .inr (.inr h1)
  · have h1 := hd.len; have h2 := h.sl; show y.M.ls.length ≤ _; omega
/-- What a crash leaves of an act. -/
def lftR (kp : Nat) (torn cut : Int) (ra : RActV) (i : Nat) : Option RActV :=
  if (i : Int) = torn ∧ ra.kind ≤ 1 then some { ra with b := ⟨ra.b.a, ra.b.c, ra.b.l.take (cutN cut ra.b.l.length).toNat⟩ } else if kp / 2 ^ (i % 64) % 2 ≠ 0 then some ra else none
def crG (kp : Nat) (torn cut : Int) (f : Cont) (L : List RActV) : Cont := L.zipIdx.foldl (fun f x => match lftR kp torn cut x.1 x.2 with | some b => doF f (acV b) | none => f) f
theorem crG_snoc (kp : Nat) (torn cut : Int) (f : Cont) (L : List RActV) (a : RActV) : crG kp torn cut f (L ++ [a]) = match lftR kp torn cut a L.length with | some b => doF (crG kp torn cut f L) (acV b) | none => crG kp torn cut f L := by
  unfold crG
  rw [List.zipIdx_append, List.foldl_append]
  simp
structure CrI (Src : BS → Prop) (s : RS) (kp : Nat) (torn cut : Int) (B N k : Nat) (sy : FL) (P : PL) : Prop where
  ri : RI Src { s with syn := sy } P (B + 1000 * k) (N + k)
  rep : ∀ f, Rep s.syn.ls f → Rep sy.ls (crG kp torn cut f (s.pend.take k))
theorem CrI.none {Src : BS → Prop} {s : RS} {kp : Nat} {torn cut : Int} {B N k : Nat} {sy : FL} {P : PL} (h : CrI Src s kp torn cut B N k sy P) (hk : k < s.pend.length) (hl : lftR kp torn cut s.pend[k] k = none) : CrI Src s kp torn cut B N (k + 1) sy P :=
  ⟨h.ri.mono (by omega) (by omega), fun f hf => by rw [List.take_succ_eq_append_getElem hk, crG_snoc, List.length_take, Nat.min_eq_left (Nat.le_of_lt hk), hl]; exact h.rep f hf⟩
theorem CrI.step {Src : BS → Prop} {s : RS} {kp : Nat} {torn cut : Int} {B N k : Nat} {sy : FL} {P : PL} {ra : RActV} {y : DO} (h : CrI Src s kp torn cut B N k sy P) (hk : k < s.pend.length) (hl : lftR kp torn cut s.pend[k] k = some ra) (hd : DoneOk (B + 1000 * k) sy ra y) (hr : Src ra.b) (hb : ra.b.l.length ≤ 1000) (hB : 1000 ≤ B) : CrI Src s kp torn cut B N (k + 1) y.M (P.add y) :=
  ⟨(RI.done (s := { s with syn := sy }) h.ri hd hr hb (by omega)).mono (by omega) (by omega), fun f hf => by
    rw [List.take_succ_eq_append_getElem hk, crG_snoc, List.length_take, Nat.min_eq_left (Nat.le_of_lt hk), hl]; exact hd.rep _ (h.rep f hf)⟩
theorem div_pow (a j : Nat) : a / 2 ^ j / 2 = a / 2 ^ (j + 1) := by rw [Nat.div_div_eq_div_mul, Nat.pow_succ]
theorem quo_u64 (a : Nat) (h : a < 18446744073709551616) : IntKind.u64.wrap ((a : Int).tdiv 2) = ((a / 2 : Nat) : Int) := by
  have : (a : Int).tdiv 2 = ((a / 2 : Nat) : Int) := by
    rw [show (2 : Int) = ((2 : Nat) : Int) from rfl, ← Int.ofNat_tdiv]
  rw [this]
  exact wrap_nat .u64 rfl (by show _ < 2 ^ 64; omega)
theorem rem_u64 (a : Nat) (h : a < 18446744073709551616) : IntKind.u64.wrap ((a : Int).tmod 2) = ((a % 2 : Nat) : Int) := by
  have : (a : Int).tmod 2 = ((a % 2 : Nat) : Int) := by
    rw [show (2 : Int) = ((2 : Nat) : Int) from rfl, ← Int.ofNat_tmod]
  rw [this]
  exact wrap_nat .u64 rfl (by show _ < 2 ^ 64; omega)
theorem cut_small {cut : Int} {n : Nat} (h : (cut < 0 ∧ 0 < n) ∨ (0 ≤ cut ∧ cut < n)) : cutN cut n ≤ n ∧ ((cut < 0 ∧ cutN cut n = 0) ∨ (0 ≤ cut ∧ cutN cut n = cut)) := by
  rcases h with ⟨h1, h2⟩ | ⟨h1, h2⟩
  · have : cutN cut n = 0 := by unfold cutN; rw [if_neg (show ¬ (n : Int) < cut by omega), if_neg (show ¬ cut > 0 by omega)]
    omega
  · have : cutN cut n = cut := by
      unfold cutN; rw [if_neg (show ¬ (n : Int) < cut by omega)]
      by_cases h0 : cut > 0
      · rw [if_pos h0]
      · rw [if_neg h0]; omega
    omega
theorem cut_big {cut : Int} {n : Nat} (h : (cut < 0 ∧ ¬ 0 < n) ∨ (0 ≤ cut ∧ ¬ cut < n)) : cutN cut n = (n : Int) := by
  unfold cutN
  by_cases h1 : (n : Int) < cut
  · rw [if_pos h1]
    by_cases h0 : (n : Int) > 0
    · rw [if_pos h0]
    · rw [if_neg h0]; omega
  · rw [if_neg h1]
    by_cases h0 : cut > 0
    · rw [if_pos h0]; omega
    · rw [if_neg h0]; omega
theorem lftR_cut {kp : Nat} {torn cut : Int} {ra : RActV} {i m : Nat} (h1 : (i : Int) = torn) (h2 : ra.kind ≤ 1) (hm : cutN cut ra.b.l.length = (m : Int)) : lftR kp torn cut ra i = some { ra with b := ⟨ra.b.a, ra.b.c, ra.b.l.take m⟩ } := by
  unfold lftR
  rw [if_pos ⟨h1, h2⟩, hm, Int.toNat_natCast]
theorem lftR_whole {kp : Nat} {torn cut : Int} {ra : RActV} {i : Nat} (h1 : (i : Int) = torn) (h2 : ra.kind ≤ 1) (hm : cutN cut ra.b.l.length = (ra.b.l.length : Int)) : lftR kp torn cut ra i = some ra := by
  rw [lftR_cut h1 h2 hm, List.take_length]
theorem lftR_bit {kp : Nat} {torn cut : Int} {ra : RActV} {i : Nat} (h1 : ¬ ((i : Int) = torn ∧ ra.kind ≤ 1)) (h2 : kp / 2 ^ (i % 64) % 2 = 1) : lftR kp torn cut ra i = some ra := by
  unfold lftR
  rw [if_neg h1, if_pos (by rw [h2]; decide)]
theorem lftR_no {kp : Nat} {torn cut : Int} {ra : RActV} {i : Nat} (h1 : ¬ ((i : Int) = torn ∧ ra.kind ≤ 1)) (h2 : ¬ kp / 2 ^ (i % 64) % 2 = 1) : lftR kp torn cut ra i = none := by
  unfold lftR
  have := Nat.mod_two_eq_zero_or_one (kp / 2 ^ (i % 64))
  rw [if_neg h1, if_neg (by rcases this with h | h; (rw [h]; decide); exact absurd h h2)]

theorem rc_merge {w0 w : World} {H : List SA} {q : Nat} {s s' : RS} {P : PL} {y : DO} {x : SA} (h : St w0 (flA y.ff y.fls :: eachA y.fo y.xs :: flA P.ff P.fls :: eachA P.fo P.xs :: rblk q s :: rrow s' :: x :: H) w) : St w0 (rblk q s :: rrow s' :: flA (P.add y).ff (P.add y).fls :: eachA (P.add y).fo (P.add y).xs :: x :: H) w :=
  Subs.st inferInstance w (now_merge h)
theorem rc_end {w0 w : World} {H : List SA} {q : Nat} {r : Int} {sy : FL} {P : PL} (h : St w0 (blk q (.cells (RDiskV.mk r ⟨sy.a, sy.ls.length, sy.c⟩ ⟨none, 0, 0⟩ (-1) false).cells 54 (0, 0)) :: flA P.ff P.fls :: eachA P.fo P.xs :: H) w) : St w0 (rblk q ⟨r, sy, none, 0, [], -1, false⟩ :: rrow ⟨r, sy, none, 0, [], -1, false⟩ :: flA P.ff P.fls :: eachA P.fo P.xs :: H) w := by
  have h2 : St w0 (blk q (.cells (RDiskV.mk r ⟨sy.a, sy.ls.length, sy.c⟩ ⟨none, 0, 0⟩ (-1) false).cells 54 (0, 0)) :: row (.slice none 0 0) 34 8 [] :: flA P.ff P.fls :: eachA P.fo P.xs :: H) w := Subs.st inferInstance w (h.addNil 34 8)
  exact h2
set_option maxHeartbeats 1000000 in
theorem rcrash_c {w0 : World} {H : List SA} {q : Nat} {s : RS} {P : PL} {B N : Nat} {Src : BS → Prop} (hS : ∀ b : BS, Src b → RdB w0 H (.slice b.a b.l.length b.c) b.l) (hs : RI Src s P B N) (hN : N ≤ 50000) (hB : 1000 ≤ B) (hBm : B ≤ 1000000000) {kp : Nat} {torn cut : Int} (hkp : kp < 18446744073709551616) :
    CT Try.prog w0 (rblk q s :: rrow s :: flA P.ff P.fls :: eachA P.fo P.xs :: H) 43 [.pointer (some ⟨q, 0, none⟩), .agg (PlanV.mk (kp : Int) torn cut).cells] (α := FL × PL) (fun _ => .tuple #[]) (fun y => pu (CrI Src s kp torn cut B N s.pend.length y.1 y.2) :: rblk q ⟨s.room, y.1, none, 0, [], -1, false⟩ :: rrow ⟨s.room, y.1, none, 0, [], -1, false⟩ :: flA y.2.ff y.2.fls :: eachA y.2.fo y.2.xs :: H) := by
  refine CT_intro Try.func43 rfl Try.ntmps43 rfl ?_
  refine T_seq ?_
  refine T_region ?_
  refine TL_e rfl (Ef_boxN rfl (fun b3 => ?_))
  refine TL_nil ?_
  refine X_then ?_
  refine T_seq ?_
  refine T_seq ?_
  refine T_region ?_
  refine TL_q (Qt_assign (.int .i64 _) rfl) rfl ?_
  refine TL_nil ?_
  refine X_then ?_
  refine T_block ?_
  have hpn := hs.pn
  refine T_loop [4, 5, 6, 7, 8, 9, 10, 11, 12, 13, 14, 15, 16, 17, 18, 19, 20, 21, 22, 23, 24, 25, 26, 27, 28, 29, 30, 31, 32, 33, 34, 35, 36, 37, 38, 39, 40, 41, 42, 43, 44, 45, 46, 47, 48, 49, 50, 51, 52, 53, 54, 55, 56, 57, 58, 59, 60, 61, 62, 63, 64, 65, 66, 67, 68, 69, 70, 71, 72, 73, 74, 75, 76, 77, 78] [4] (fun us H' => ∃ (k : Nat) (sy : FL) (P : PL), us = [.int .i64 (k : Int)] ∧ rblk q { s with syn := sy } :: rrow s :: flA P.ff P.fls :: eachA P.fo P.xs :: blk b3 (.cells (PlanV.mk (kp : Int) torn cut).cells 25 (0, 0)) :: H = H' ∧ k ≤ s.pend.length ∧ (CrI Src s kp torn cut B N k sy P)) (fun us => match us with | .int _ i :: _ => s.pend.length - i.toNat | _ => 0) ⟨0, s.syn, P, rfl, rfl, by omega, ⟨hs.mono (by omega) (by omega), fun f hf => hf⟩⟩ (Subs.st inferInstance) ?_
  rintro τ0 _ _  ⟨k, sy, P, rfl, rfl, hk0, hc⟩ _
  refine T_seq ?_
  refine T_seq ?_
  refine T_region ?_
  refine TL_q (Qt_move (.int .i64 _) rfl) rfl ?_
  refine TL_q (Qt_move (.pointer _) rfl) rfl ?_
  refine TL_q (Qt_nilCheck rfl) rfl ?_
  refine TL_q (Qt_fieldAddr 2 rfl rfl) rfl ?_
  refine TL_q (Qt_load1 rfl) rfl ?_
  refine TL_q (Qt_len_slice rfl Try.underlying22) rfl ?_
  refine TL_q (Qt_lss rfl rfl) rfl ?_
  refine TL_nil ?_
  refine X_then ?_
  refine T_cond rfl (fun h15 => ?_) (fun h15 => ?_)
  ·
    have p15 := h15
    try simp only [decide_eq_true_eq, decide_eq_false_iff_not, Bool.not_eq_true', Bool.not_eq_false', Option.isNone_iff_eq_none, ne_eq, Decidable.not_not, Int.not_lt, Int.not_le] at p15
    have hk : k < s.pend.length := by omega
    have hsr := hs.own (List.getElem_mem hk)
    have hrp := hS _ hsr
    have hpl := hs.pl _ (List.getElem_mem hk)
    have hcr := cutN_range cut s.pend[k].b.l.length
    refine T_skip ?_
    refine X_then ?_
    refine T_seq ?_
    refine T_block ?_
    refine T_seq ?_
    refine T_region ?_
    refine TL_q (Qt_move (.pointer _) rfl) rfl ?_
    refine TL_q (Qt_nilCheck rfl) rfl ?_
    refine TL_q (Qt_fieldAddr 2 rfl rfl) rfl ?_
    refine TL_q (Qt_load1 rfl) rfl ?_
    refine TL_q (Qt_move (.int .i64 _) rfl) rfl ?_
    refine TL_q (Qt_indexN rfl rfl (by omega) (by omega)) rfl ?_
    refine TL_q (Qt_val (Qt_loadRN 8 s.pend[k].list rfl (flat_slice _ 8 RActV.list_len s.pend k hk) (RActV.list_len _) (by decide)) (show Value.agg s.pend[k].list.toArray = Value.agg s.pend[k].cells from rfl)) rfl ?_
    refine TL_e rfl (Ef_allocN (fun b5 => ?_))
    refine TL_n (Ef_storeN rfl rfl (?_))
    refine TL_nil ?_
    refine X_then ?_
    refine T_seq ?_
    refine T_seq ?_
    refine T_region ?_
    refine TL_q (Qt_move (.int .i64 _) rfl) rfl ?_
    refine TL_q (Qt_fieldAddr 1 rfl rfl) rfl ?_
    refine TL_q (Qt_load1 rfl) rfl ?_
    refine TL_q (Qt_eql rfl rfl) rfl ?_
    refine TL_q (Qt_move (.bool _) rfl) rfl ?_
    refine TL_split 29 rfl (fun h29 => ?_) (fun h29 => ?_)
    ·
      have p29 := h29
      try simp only [decide_eq_true_eq, decide_eq_false_iff_not, Bool.not_eq_true', Bool.not_eq_false', Option.isNone_iff_eq_none, ne_eq, Decidable.not_not, Int.not_lt, Int.not_le] at p29
      refine TL_take rfl rfl h29 ?_
      refine TL_q (Qt_fieldAddr 0 rfl rfl) rfl ?_
      refine TL_take rfl rfl h29 ?_
      refine TL_q (Qt_load1 rfl) rfl ?_
      refine TL_take rfl rfl h29 ?_
      refine TL_q (Qt_leq rfl rfl) rfl ?_
      refine TL_q (Qt_pick_t (.bool _) rfl h29 rfl) rfl ?_
      refine TL_nil ?_
      refine X_then ?_
      refine T_cond rfl (fun h33 => ?_) (fun h33 => ?_)
      ·
        have p33 := h33
        try simp only [decide_eq_true_eq, decide_eq_false_iff_not, Bool.not_eq_true', Bool.not_eq_false', Option.isNone_iff_eq_none, ne_eq, Decidable.not_not, Int.not_lt, Int.not_le] at p33
        have hto : (k : Int) = torn := by first | (simpa using h29) | (simp_all; done)
        have hki : s.pend[k].kind ≤ 1 := by first | (simpa using h33) | (simpa using h32) | (simp_all; done)
        refine T_seq ?_
        refine T_region ?_
        refine TL_q (Qt_fieldAddr 2 rfl rfl) rfl ?_
        refine TL_q (Qt_load1 rfl) rfl ?_
        refine TL_q (Qt_assign (.int .i64 _) rfl) rfl ?_
        refine TL_nil ?_
        refine X_then ?_
        refine T_seq ?_
        refine T_seq ?_
        refine T_region ?_
        refine TL_q (Qt_move (.int .i64 _) rfl) rfl ?_
        refine TL_q (Qt_lss rfl rfl) rfl ?_
        refine TL_nil ?_
        refine X_then ?_
        refine T_cond rfl (fun h37 => ?_) (fun h37 => ?_)
        ·
          have p37 := h37
          try simp only [decide_eq_true_eq, decide_eq_false_iff_not, Bool.not_eq_true', Bool.not_eq_false', Option.isNone_iff_eq_none, ne_eq, Decidable.not_not, Int.not_lt, Int.not_le] at p37
          refine T_region ?_
          refine TL_q (Qt_assign (.int .i64 _) rfl) rfl ?_
          refine TL_nil ?_
          refine X_then ?_
          refine T_seq ?_
          refine T_seq ?_
          refine T_region ?_
          refine TL_q (Qt_move (.int .i64 _) rfl) rfl ?_
          refine TL_q (Qt_fieldAddr 3 rfl rfl) rfl ?_
          refine TL_q (Qt_load1 rfl) rfl ?_
          refine TL_q (Qt_len_slice rfl Try.underlying32) rfl ?_
          refine TL_q (Qt_lss rfl rfl) rfl ?_
          refine TL_nil ?_
          refine X_then ?_
          refine T_cond rfl (fun h42 => ?_) (fun h42 => ?_)
          ·
            have p42 := h42
            try simp only [decide_eq_true_eq, decide_eq_false_iff_not, Bool.not_eq_true', Bool.not_eq_false', Option.isNone_iff_eq_none, ne_eq, Decidable.not_not, Int.not_lt, Int.not_le] at p42
            have hcs := cut_small (cut := cut) (n := s.pend[k].b.l.length) (by omega)
            obtain ⟨m, hcm⟩ := Int.eq_ofNat_of_zero_le hcr.1
            rw [hcm] at hcs
            obtain ⟨rx, hrx⟩ : ∃ rx : RActV, rx = { s.pend[k] with b := ⟨s.pend[k].b.a, s.pend[k].b.c, s.pend[k].b.l.take m⟩ } := ⟨_, rfl⟩
            have hlf : lftR kp torn cut s.pend[k] k = some rx := by rw [hrx]; exact lftR_cut hto hki hcm
            have hsx : Src rx.b := by rw [hrx]; exact hs.pb _ (List.getElem_mem hk) m
            have hrd : RdB w0 H (.slice rx.b.a rx.b.l.length rx.b.c) rx.b.l := by rw [hrx]; exact (RdB.takeI (a := s.pend[k].b.a) (c := s.pend[k].b.c) (l := s.pend[k].b.l) (m := m) : RdB w0 H (.slice s.pend[k].b.a (s.pend[k].b.l.take m).length s.pend[k].b.c) (s.pend[k].b.l.take m))
            have hrl : rx.b.l.length ≤ 1000 := by rw [hrx]; simp; omega
            refine T_region ?_
            refine TL_q (Qt_fieldAddr 3 rfl rfl) rfl ?_
            refine TL_q (Qt_load1 rfl) rfl ?_
            refine TL_q (Qt_move (.int .i64 _) rfl) rfl ?_
            refine TL_q (Qt_sliceB_h m rfl (congrArg (Value.int .i64) (show _ = (m : Int) from by omega)) (by omega)) rfl ?_
            refine TL_q (Qt_fieldAddr 3 rfl rfl) rfl ?_
            refine TL_n (Ef_store1 (.slice _ _ _) rfl rfl (?_))
            rw [← hrx]
            refine TL_nil ?_
            refine X_then ?_
            refine T_seq ?_
            refine T_drawF (blk b5 (.cells rx.cells 34 (0, 0)) :: H) (by kernel_rfl) (Subs.st inferInstance) ?_
            refine DLF_q (i := 0) (by kernel_rfl) rfl (by kernel_rfl) (by kernel_rfl) (Qt_move (.pointer _) rfl) rfl ?_
            refine DLF_q (i := 1) (by kernel_rfl) rfl (by kernel_rfl) (by kernel_rfl) (Qt_move (.pointer _) rfl) rfl ?_
            refine DLF_q (i := 2) (by kernel_rfl) rfl (by kernel_rfl) (by kernel_rfl) (Qt_nilCheck rfl) rfl ?_
            refine DLF_q (i := 3) (by kernel_rfl) rfl (by kernel_rfl) (by kernel_rfl) (Qt_fieldAddr 1 rfl rfl) rfl ?_
            refine DLF_q (i := 5) (by kernel_rfl) rfl (by kernel_rfl) (by kernel_rfl) (Qt_loadN rfl rfl) rfl ?_
            refine DLF_1 (i := 4) (by kernel_rfl) ?_
            refine DLS_e rfl rfl (Ef_of_Qt (Qt_load1 rfl) ⟨(Subs.st inferInstance), ?_⟩)
            refine DLF_1 (i := 6) (by kernel_rfl) ?_
            have hok := hc.ri.ok hS
            have hat : RdC w0 (flA P.ff P.fls :: eachA P.fo P.xs :: H) (.slice sy.a sy.ls.length sy.c) 2 (sy.ls.flatMap FileV.list) := hok.syn
            have hat2 : RdC w0 (rblk q { s with syn := sy } :: rrow s :: flA P.ff P.fls :: eachA P.fo P.xs :: blk b5 (.cells rx.cells 34 (0, 0)) :: blk b3 (.cells (PlanV.mk (kp : Int) torn cut).cells 25 (0, 0)) :: H) (.slice sy.a sy.ls.length sy.c) 2 (sy.ls.flatMap FileV.list) := ⟨fun w hw => hat.rd w (Subs.st inferInstance w hw)⟩
            have hre : RdE w0 (rblk q { s with syn := sy } :: rrow s :: flA P.ff P.fls :: eachA P.fo P.xs :: blk b5 (.cells rx.cells 34 (0, 0)) :: blk b3 (.cells (PlanV.mk (kp : Int) torn cut).cells 25 (0, 0)) :: H) (sy.ls.map (·.b)) := ⟨fun y hy w hw => hok.syb.rd y hy w (Subs.st inferInstance w hw)⟩
            refine DLS_conv (fun w hw => (Subs.st inferInstance w hw : St w0 (rblk q { s with syn := sy } :: rrow s :: flA P.ff P.fls :: eachA P.fo P.xs :: blk b5 (.cells rx.cells 34 (0, 0)) :: blk b3 (.cells (PlanV.mk (kp : Int) torn cut).cells 25 (0, 0)) :: H) w)) ?_
            have hrb := hrd
            refine DLS_e rfl rfl (Ef_call (rdone_c (L := sy.ls) (a := sy.a) (c := sy.c) (ra := rx) (B := B + 1000 * k) (by have := hc.ri.sl; have := hc.ri.pn; simp only at *; omega) hre hc.ri.bl (by have := hc.ri.pn; simp only at *; omega) (by omega)) rfl (fun x54 => ⟨(Subs.st inferInstance), ?_⟩))
            refine DLF_pure (fun h54 => ?_)
            refine DLF_q (i := 7) (by kernel_rfl) rfl (by kernel_rfl) (by kernel_rfl) (Qt_nilCheck rfl) rfl ?_
            refine DLF_q (i := 8) (by kernel_rfl) rfl (by kernel_rfl) (by kernel_rfl) (Qt_fieldAddr 1 rfl rfl) rfl ?_
            refine DLF_1 (i := 9) (by kernel_rfl) ?_
            refine DLS_n rfl (Ef_store1 (.slice _ _ _) rfl rfl (⟨(Subs.st inferInstance), ?_⟩))
            refine DLF_nil (by kernel_rfl) ?_
            refine X_then ?_
            refine T_exit ?_
            refine X_then_exit ?_
            refine X_block_exit ?_
            refine X_then ?_
            refine T_region ?_
            refine TL_q (Qt_move (.int .i64 _) rfl) rfl ?_
            first
              | refine TL_q (Qt_add rfl rfl (by omega) (by omega)) rfl ?_
              | refine TL_q (Qt_addw rfl rfl) rfl ?_
            refine TL_q (Qt_assign (.int .i64 _) rfl) rfl ?_
            refine TL_nil ?_
            apply X_loop
            case ha => exact (by repeat (first | with_reducible exact agree_refl | refine agree_upd rfl ?_ | refine agree_mix rfl ?_ | refine agree_setAll rfl ?_))
            case hI => exact by first | exact ⟨k + 1, x54.M, P.add x54, rfl, rfl, by omega, hc.step hk hlf h54 hsx hrl hB⟩ | exact ⟨k + 1, x76.M, P.add x76, rfl, rfl, by omega, hc.step hk hlf h76 hsr hpl hB⟩ | exact ⟨k + 1, sy, P, rfl, rfl, by omega, hc.none hk hlf⟩
            case hm => exact by show s.pend.length - (k + 1 : Int).toNat < s.pend.length - (k : Int).toNat; omega
            case hH => exact by first | exact (fun w hw => rc_merge (y := x54) (Subs.st inferInstance w hw)) | exact (fun w hw => rc_merge (y := x76) (Subs.st inferInstance w hw)) | exact (Subs.st inferInstance)
          ·
            have p42 := h42
            try simp only [decide_eq_true_eq, decide_eq_false_iff_not, Bool.not_eq_true', Bool.not_eq_false', Option.isNone_iff_eq_none, ne_eq, Decidable.not_not, Int.not_lt, Int.not_le] at p42
            have hcm : cutN cut s.pend[k].b.l.length = (s.pend[k].b.l.length : Int) := cut_big (by omega)
            obtain ⟨rx, hrx⟩ : ∃ rx : RActV, rx = s.pend[k] := ⟨_, rfl⟩
            have hlf : lftR kp torn cut s.pend[k] k = some rx := by rw [hrx]; exact lftR_whole hto hki hcm
            have hsx : Src rx.b := by rw [hrx]; exact hsr
            have hrd : RdB w0 H (.slice rx.b.a rx.b.l.length rx.b.c) rx.b.l := by rw [hrx]; exact hrp
            have hrl : rx.b.l.length ≤ 1000 := by rw [hrx]; exact hpl
            rw [← hrx]
            refine T_skip ?_
            refine X_then ?_
            refine T_seq ?_
            refine T_drawF (blk b5 (.cells rx.cells 34 (0, 0)) :: H) (by kernel_rfl) (Subs.st inferInstance) ?_
            refine DLF_q (i := 0) (by kernel_rfl) rfl (by kernel_rfl) (by kernel_rfl) (Qt_move (.pointer _) rfl) rfl ?_
            refine DLF_q (i := 1) (by kernel_rfl) rfl (by kernel_rfl) (by kernel_rfl) (Qt_move (.pointer _) rfl) rfl ?_
            refine DLF_q (i := 2) (by kernel_rfl) rfl (by kernel_rfl) (by kernel_rfl) (Qt_nilCheck rfl) rfl ?_
            refine DLF_q (i := 3) (by kernel_rfl) rfl (by kernel_rfl) (by kernel_rfl) (Qt_fieldAddr 1 rfl rfl) rfl ?_
            refine DLF_q (i := 5) (by kernel_rfl) rfl (by kernel_rfl) (by kernel_rfl) (Qt_loadN rfl rfl) rfl ?_
            refine DLF_1 (i := 4) (by kernel_rfl) ?_
            refine DLS_e rfl rfl (Ef_of_Qt (Qt_load1 rfl) ⟨(Subs.st inferInstance), ?_⟩)
            refine DLF_1 (i := 6) (by kernel_rfl) ?_
            have hok := hc.ri.ok hS
            have hat : RdC w0 (flA P.ff P.fls :: eachA P.fo P.xs :: H) (.slice sy.a sy.ls.length sy.c) 2 (sy.ls.flatMap FileV.list) := hok.syn
            have hat2 : RdC w0 (rblk q { s with syn := sy } :: rrow s :: flA P.ff P.fls :: eachA P.fo P.xs :: blk b5 (.cells rx.cells 34 (0, 0)) :: blk b3 (.cells (PlanV.mk (kp : Int) torn cut).cells 25 (0, 0)) :: H) (.slice sy.a sy.ls.length sy.c) 2 (sy.ls.flatMap FileV.list) := ⟨fun w hw => hat.rd w (Subs.st inferInstance w hw)⟩
            have hre : RdE w0 (rblk q { s with syn := sy } :: rrow s :: flA P.ff P.fls :: eachA P.fo P.xs :: blk b5 (.cells rx.cells 34 (0, 0)) :: blk b3 (.cells (PlanV.mk (kp : Int) torn cut).cells 25 (0, 0)) :: H) (sy.ls.map (·.b)) := ⟨fun y hy w hw => hok.syb.rd y hy w (Subs.st inferInstance w hw)⟩
            refine DLS_conv (fun w hw => (Subs.st inferInstance w hw : St w0 (rblk q { s with syn := sy } :: rrow s :: flA P.ff P.fls :: eachA P.fo P.xs :: blk b5 (.cells rx.cells 34 (0, 0)) :: blk b3 (.cells (PlanV.mk (kp : Int) torn cut).cells 25 (0, 0)) :: H) w)) ?_
            have hrb := hrd
            refine DLS_e rfl rfl (Ef_call (rdone_c (L := sy.ls) (a := sy.a) (c := sy.c) (ra := rx) (B := B + 1000 * k) (by have := hc.ri.sl; have := hc.ri.pn; simp only at *; omega) hre hc.ri.bl (by have := hc.ri.pn; simp only at *; omega) (by omega)) rfl (fun x54 => ⟨(Subs.st inferInstance), ?_⟩))
            refine DLF_pure (fun h54 => ?_)
            refine DLF_q (i := 7) (by kernel_rfl) rfl (by kernel_rfl) (by kernel_rfl) (Qt_nilCheck rfl) rfl ?_
            refine DLF_q (i := 8) (by kernel_rfl) rfl (by kernel_rfl) (by kernel_rfl) (Qt_fieldAddr 1 rfl rfl) rfl ?_
            refine DLF_1 (i := 9) (by kernel_rfl) ?_
            refine DLS_n rfl (Ef_store1 (.slice _ _ _) rfl rfl (⟨(Subs.st inferInstance), ?_⟩))
            refine DLF_nil (by kernel_rfl) ?_
            refine X_then ?_
            refine T_exit ?_
            refine X_then_exit ?_
            refine X_block_exit ?_
            refine X_then ?_
            refine T_region ?_
            refine TL_q (Qt_move (.int .i64 _) rfl) rfl ?_
            first
              | refine TL_q (Qt_add rfl rfl (by omega) (by omega)) rfl ?_
              | refine TL_q (Qt_addw rfl rfl) rfl ?_
            refine TL_q (Qt_assign (.int .i64 _) rfl) rfl ?_
            refine TL_nil ?_
            apply X_loop
            case ha => exact (by repeat (first | with_reducible exact agree_refl | refine agree_upd rfl ?_ | refine agree_mix rfl ?_ | refine agree_setAll rfl ?_))
            case hI => exact by first | exact ⟨k + 1, x54.M, P.add x54, rfl, rfl, by omega, hc.step hk hlf h54 hsx hrl hB⟩ | exact ⟨k + 1, x76.M, P.add x76, rfl, rfl, by omega, hc.step hk hlf h76 hsr hpl hB⟩ | exact ⟨k + 1, sy, P, rfl, rfl, by omega, hc.none hk hlf⟩
            case hm => exact by show s.pend.length - (k + 1 : Int).toNat < s.pend.length - (k : Int).toNat; omega
            case hH => exact by first | exact (fun w hw => rc_merge (y := x54) (Subs.st inferInstance w hw)) | exact (fun w hw => rc_merge (y := x76) (Subs.st inferInstance w hw)) | exact (Subs.st inferInstance)
        ·
          have p37 := h37
          try simp only [decide_eq_true_eq, decide_eq_false_iff_not, Bool.not_eq_true', Bool.not_eq_false', Option.isNone_iff_eq_none, ne_eq, Decidable.not_not, Int.not_lt, Int.not_le] at p37
          refine T_skip ?_
          refine X_then ?_
          refine T_seq ?_
          refine T_seq ?_
          refine T_region ?_
          refine TL_q (Qt_move (.int .i64 _) rfl) rfl ?_
          refine TL_q (Qt_fieldAddr 3 rfl rfl) rfl ?_
          refine TL_q (Qt_load1 rfl) rfl ?_
          refine TL_q (Qt_len_slice rfl Try.underlying32) rfl ?_
          refine TL_q (Qt_lss rfl rfl) rfl ?_
          refine TL_nil ?_
          refine X_then ?_
          refine T_cond rfl (fun h42 => ?_) (fun h42 => ?_)
          ·
            have p42 := h42
            try simp only [decide_eq_true_eq, decide_eq_false_iff_not, Bool.not_eq_true', Bool.not_eq_false', Option.isNone_iff_eq_none, ne_eq, Decidable.not_not, Int.not_lt, Int.not_le] at p42
            have hcs := cut_small (cut := cut) (n := s.pend[k].b.l.length) (by omega)
            obtain ⟨m, hcm⟩ := Int.eq_ofNat_of_zero_le hcr.1
            rw [hcm] at hcs
            obtain ⟨rx, hrx⟩ : ∃ rx : RActV, rx = { s.pend[k] with b := ⟨s.pend[k].b.a, s.pend[k].b.c, s.pend[k].b.l.take m⟩ } := ⟨_, rfl⟩
            have hlf : lftR kp torn cut s.pend[k] k = some rx := by rw [hrx]; exact lftR_cut hto hki hcm
            have hsx : Src rx.b := by rw [hrx]; exact hs.pb _ (List.getElem_mem hk) m
            have hrd : RdB w0 H (.slice rx.b.a rx.b.l.length rx.b.c) rx.b.l := by rw [hrx]; exact (RdB.takeI (a := s.pend[k].b.a) (c := s.pend[k].b.c) (l := s.pend[k].b.l) (m := m) : RdB w0 H (.slice s.pend[k].b.a (s.pend[k].b.l.take m).length s.pend[k].b.c) (s.pend[k].b.l.take m))
            have hrl : rx.b.l.length ≤ 1000 := by rw [hrx]; simp; omega
            refine T_region ?_
            refine TL_q (Qt_fieldAddr 3 rfl rfl) rfl ?_
            refine TL_q (Qt_load1 rfl) rfl ?_
            refine TL_q (Qt_move (.int .i64 _) rfl) rfl ?_
            refine TL_q (Qt_sliceB_h m rfl (congrArg (Value.int .i64) (show _ = (m : Int) from by omega)) (by omega)) rfl ?_
            refine TL_q (Qt_fieldAddr 3 rfl rfl) rfl ?_
            refine TL_n (Ef_store1 (.slice _ _ _) rfl rfl (?_))
            rw [← hrx]
            refine TL_nil ?_
            refine X_then ?_
            refine T_seq ?_
            refine T_drawF (blk b5 (.cells rx.cells 34 (0, 0)) :: H) (by kernel_rfl) (Subs.st inferInstance) ?_
            refine DLF_q (i := 0) (by kernel_rfl) rfl (by kernel_rfl) (by kernel_rfl) (Qt_move (.pointer _) rfl) rfl ?_
            refine DLF_q (i := 1) (by kernel_rfl) rfl (by kernel_rfl) (by kernel_rfl) (Qt_move (.pointer _) rfl) rfl ?_
            refine DLF_q (i := 2) (by kernel_rfl) rfl (by kernel_rfl) (by kernel_rfl) (Qt_nilCheck rfl) rfl ?_
            refine DLF_q (i := 3) (by kernel_rfl) rfl (by kernel_rfl) (by kernel_rfl) (Qt_fieldAddr 1 rfl rfl) rfl ?_
            refine DLF_q (i := 5) (by kernel_rfl) rfl (by kernel_rfl) (by kernel_rfl) (Qt_loadN rfl rfl) rfl ?_
            refine DLF_1 (i := 4) (by kernel_rfl) ?_
            refine DLS_e rfl rfl (Ef_of_Qt (Qt_load1 rfl) ⟨(Subs.st inferInstance), ?_⟩)
            refine DLF_1 (i := 6) (by kernel_rfl) ?_
            have hok := hc.ri.ok hS
            have hat : RdC w0 (flA P.ff P.fls :: eachA P.fo P.xs :: H) (.slice sy.a sy.ls.length sy.c) 2 (sy.ls.flatMap FileV.list) := hok.syn
            have hat2 : RdC w0 (rblk q { s with syn := sy } :: rrow s :: flA P.ff P.fls :: eachA P.fo P.xs :: blk b5 (.cells rx.cells 34 (0, 0)) :: blk b3 (.cells (PlanV.mk (kp : Int) torn cut).cells 25 (0, 0)) :: H) (.slice sy.a sy.ls.length sy.c) 2 (sy.ls.flatMap FileV.list) := ⟨fun w hw => hat.rd w (Subs.st inferInstance w hw)⟩
            have hre : RdE w0 (rblk q { s with syn := sy } :: rrow s :: flA P.ff P.fls :: eachA P.fo P.xs :: blk b5 (.cells rx.cells 34 (0, 0)) :: blk b3 (.cells (PlanV.mk (kp : Int) torn cut).cells 25 (0, 0)) :: H) (sy.ls.map (·.b)) := ⟨fun y hy w hw => hok.syb.rd y hy w (Subs.st inferInstance w hw)⟩
            refine DLS_conv (fun w hw => (Subs.st inferInstance w hw : St w0 (rblk q { s with syn := sy } :: rrow s :: flA P.ff P.fls :: eachA P.fo P.xs :: blk b5 (.cells rx.cells 34 (0, 0)) :: blk b3 (.cells (PlanV.mk (kp : Int) torn cut).cells 25 (0, 0)) :: H) w)) ?_
            have hrb := hrd
            refine DLS_e rfl rfl (Ef_call (rdone_c (L := sy.ls) (a := sy.a) (c := sy.c) (ra := rx) (B := B + 1000 * k) (by have := hc.ri.sl; have := hc.ri.pn; simp only at *; omega) hre hc.ri.bl (by have := hc.ri.pn; simp only at *; omega) (by omega)) rfl (fun x54 => ⟨(Subs.st inferInstance), ?_⟩))
            refine DLF_pure (fun h54 => ?_)
            refine DLF_q (i := 7) (by kernel_rfl) rfl (by kernel_rfl) (by kernel_rfl) (Qt_nilCheck rfl) rfl ?_
            refine DLF_q (i := 8) (by kernel_rfl) rfl (by kernel_rfl) (by kernel_rfl) (Qt_fieldAddr 1 rfl rfl) rfl ?_
            refine DLF_1 (i := 9) (by kernel_rfl) ?_
            refine DLS_n rfl (Ef_store1 (.slice _ _ _) rfl rfl (⟨(Subs.st inferInstance), ?_⟩))
            refine DLF_nil (by kernel_rfl) ?_
            refine X_then ?_
            refine T_exit ?_
            refine X_then_exit ?_
            refine X_block_exit ?_
            refine X_then ?_
            refine T_region ?_
            refine TL_q (Qt_move (.int .i64 _) rfl) rfl ?_
            first
              | refine TL_q (Qt_add rfl rfl (by omega) (by omega)) rfl ?_
              | refine TL_q (Qt_addw rfl rfl) rfl ?_
            refine TL_q (Qt_assign (.int .i64 _) rfl) rfl ?_
            refine TL_nil ?_
            apply X_loop
            case ha => exact (by repeat (first | with_reducible exact agree_refl | refine agree_upd rfl ?_ | refine agree_mix rfl ?_ | refine agree_setAll rfl ?_))
            case hI => exact by first | exact ⟨k + 1, x54.M, P.add x54, rfl, rfl, by omega, hc.step hk hlf h54 hsx hrl hB⟩ | exact ⟨k + 1, x76.M, P.add x76, rfl, rfl, by omega, hc.step hk hlf h76 hsr hpl hB⟩ | exact ⟨k + 1, sy, P, rfl, rfl, by omega, hc.none hk hlf⟩
            case hm => exact by show s.pend.length - (k + 1 : Int).toNat < s.pend.length - (k : Int).toNat; omega
            case hH => exact by first | exact (fun w hw => rc_merge (y := x54) (Subs.st inferInstance w hw)) | exact (fun w hw => rc_merge (y := x76) (Subs.st inferInstance w hw)) | exact (Subs.st inferInstance)
          ·
            have p42 := h42
            try simp only [decide_eq_true_eq, decide_eq_false_iff_not, Bool.not_eq_true', Bool.not_eq_false', Option.isNone_iff_eq_none, ne_eq, Decidable.not_not, Int.not_lt, Int.not_le] at p42
            have hcm : cutN cut s.pend[k].b.l.length = (s.pend[k].b.l.length : Int) := cut_big (by omega)
            obtain ⟨rx, hrx⟩ : ∃ rx : RActV, rx = s.pend[k] := ⟨_, rfl⟩
            have hlf : lftR kp torn cut s.pend[k] k = some rx := by rw [hrx]; exact lftR_whole hto hki hcm
            have hsx : Src rx.b := by rw [hrx]; exact hsr
            have hrd : RdB w0 H (.slice rx.b.a rx.b.l.length rx.b.c) rx.b.l := by rw [hrx]; exact hrp
            have hrl : rx.b.l.length ≤ 1000 := by rw [hrx]; exact hpl
            rw [← hrx]
            refine T_skip ?_
            refine X_then ?_
            refine T_seq ?_
            refine T_drawF (blk b5 (.cells rx.cells 34 (0, 0)) :: H) (by kernel_rfl) (Subs.st inferInstance) ?_
            refine DLF_q (i := 0) (by kernel_rfl) rfl (by kernel_rfl) (by kernel_rfl) (Qt_move (.pointer _) rfl) rfl ?_
            refine DLF_q (i := 1) (by kernel_rfl) rfl (by kernel_rfl) (by kernel_rfl) (Qt_move (.pointer _) rfl) rfl ?_
            refine DLF_q (i := 2) (by kernel_rfl) rfl (by kernel_rfl) (by kernel_rfl) (Qt_nilCheck rfl) rfl ?_
            refine DLF_q (i := 3) (by kernel_rfl) rfl (by kernel_rfl) (by kernel_rfl) (Qt_fieldAddr 1 rfl rfl) rfl ?_
            refine DLF_q (i := 5) (by kernel_rfl) rfl (by kernel_rfl) (by kernel_rfl) (Qt_loadN rfl rfl) rfl ?_
            refine DLF_1 (i := 4) (by kernel_rfl) ?_
            refine DLS_e rfl rfl (Ef_of_Qt (Qt_load1 rfl) ⟨(Subs.st inferInstance), ?_⟩)
            refine DLF_1 (i := 6) (by kernel_rfl) ?_
            have hok := hc.ri.ok hS
            have hat : RdC w0 (flA P.ff P.fls :: eachA P.fo P.xs :: H) (.slice sy.a sy.ls.length sy.c) 2 (sy.ls.flatMap FileV.list) := hok.syn
            have hat2 : RdC w0 (rblk q { s with syn := sy } :: rrow s :: flA P.ff P.fls :: eachA P.fo P.xs :: blk b5 (.cells rx.cells 34 (0, 0)) :: blk b3 (.cells (PlanV.mk (kp : Int) torn cut).cells 25 (0, 0)) :: H) (.slice sy.a sy.ls.length sy.c) 2 (sy.ls.flatMap FileV.list) := ⟨fun w hw => hat.rd w (Subs.st inferInstance w hw)⟩
            have hre : RdE w0 (rblk q { s with syn := sy } :: rrow s :: flA P.ff P.fls :: eachA P.fo P.xs :: blk b5 (.cells rx.cells 34 (0, 0)) :: blk b3 (.cells (PlanV.mk (kp : Int) torn cut).cells 25 (0, 0)) :: H) (sy.ls.map (·.b)) := ⟨fun y hy w hw => hok.syb.rd y hy w (Subs.st inferInstance w hw)⟩
            refine DLS_conv (fun w hw => (Subs.st inferInstance w hw : St w0 (rblk q { s with syn := sy } :: rrow s :: flA P.ff P.fls :: eachA P.fo P.xs :: blk b5 (.cells rx.cells 34 (0, 0)) :: blk b3 (.cells (PlanV.mk (kp : Int) torn cut).cells 25 (0, 0)) :: H) w)) ?_
            have hrb := hrd
            refine DLS_e rfl rfl (Ef_call (rdone_c (L := sy.ls) (a := sy.a) (c := sy.c) (ra := rx) (B := B + 1000 * k) (by have := hc.ri.sl; have := hc.ri.pn; simp only at *; omega) hre hc.ri.bl (by have := hc.ri.pn; simp only at *; omega) (by omega)) rfl (fun x54 => ⟨(Subs.st inferInstance), ?_⟩))
            refine DLF_pure (fun h54 => ?_)
            refine DLF_q (i := 7) (by kernel_rfl) rfl (by kernel_rfl) (by kernel_rfl) (Qt_nilCheck rfl) rfl ?_
            refine DLF_q (i := 8) (by kernel_rfl) rfl (by kernel_rfl) (by kernel_rfl) (Qt_fieldAddr 1 rfl rfl) rfl ?_
            refine DLF_1 (i := 9) (by kernel_rfl) ?_
            refine DLS_n rfl (Ef_store1 (.slice _ _ _) rfl rfl (⟨(Subs.st inferInstance), ?_⟩))
            refine DLF_nil (by kernel_rfl) ?_
            refine X_then ?_
            refine T_exit ?_
            refine X_then_exit ?_
            refine X_block_exit ?_
            refine X_then ?_
            refine T_region ?_
            refine TL_q (Qt_move (.int .i64 _) rfl) rfl ?_
            first
              | refine TL_q (Qt_add rfl rfl (by omega) (by omega)) rfl ?_
              | refine TL_q (Qt_addw rfl rfl) rfl ?_
            refine TL_q (Qt_assign (.int .i64 _) rfl) rfl ?_
            refine TL_nil ?_
            apply X_loop
            case ha => exact (by repeat (first | with_reducible exact agree_refl | refine agree_upd rfl ?_ | refine agree_mix rfl ?_ | refine agree_setAll rfl ?_))
            case hI => exact by first | exact ⟨k + 1, x54.M, P.add x54, rfl, rfl, by omega, hc.step hk hlf h54 hsx hrl hB⟩ | exact ⟨k + 1, x76.M, P.add x76, rfl, rfl, by omega, hc.step hk hlf h76 hsr hpl hB⟩ | exact ⟨k + 1, sy, P, rfl, rfl, by omega, hc.none hk hlf⟩
            case hm => exact by show s.pend.length - (k + 1 : Int).toNat < s.pend.length - (k : Int).toNat; omega
            case hH => exact by first | exact (fun w hw => rc_merge (y := x54) (Subs.st inferInstance w hw)) | exact (fun w hw => rc_merge (y := x76) (Subs.st inferInstance w hw)) | exact (Subs.st inferInstance)
      ·
        have p33 := h33
        try simp only [decide_eq_true_eq, decide_eq_false_iff_not, Bool.not_eq_true', Bool.not_eq_false', Option.isNone_iff_eq_none, ne_eq, Decidable.not_not, Int.not_lt, Int.not_le] at p33
        have hnt : ¬ ((k : Int) = torn ∧ s.pend[k].kind ≤ 1) := by first | (simp_all; done) | (rintro ⟨q1, q2⟩; simp_all) | (rintro ⟨q1, q2⟩; simp_all; omega)
        refine T_skip ?_
        refine X_then ?_
        refine T_seq ?_
        refine T_region ?_
        refine TL_q (Qt_fieldAddr 0 rfl rfl) rfl ?_
        refine TL_q (Qt_load1 rfl) rfl ?_
        refine TL_q (Qt_assign (.int .u64 _) rfl) rfl ?_
        refine TL_nil ?_
        refine X_then ?_
        refine T_seq ?_
        refine T_seq ?_
        refine T_region ?_
        refine TL_q (Qt_assign (.int .i64 _) rfl) rfl ?_
        refine TL_nil ?_
        refine X_then ?_
        refine T_block ?_
        refine T_loop [7, 8, 59, 60, 61, 62, 63, 64, 65, 66] [8, 7] (fun us H' => ∃ (j : Nat), us = [.int .i64 (j : Int), .int .u64 ((kp / 2 ^ j : Nat) : Int)] ∧ blk b5 (.cells s.pend[k].cells 34 (0, 0)) :: rblk q { s with syn := sy } :: rrow s :: flA P.ff P.fls :: eachA P.fo P.xs :: blk b3 (.cells (PlanV.mk (kp : Int) torn cut).cells 25 (0, 0)) :: H = H' ∧ j ≤ (k % 64)) (fun us => match us with | .int _ i :: _ => (k % 64) - i.toNat | _ => 0) ⟨0, (by rw [show kp / 2 ^ 0 = kp from Nat.div_one kp]; rfl), rfl, by omega⟩ (Subs.st inferInstance) ?_
        rintro τ1 _ _  ⟨j, rfl, rfl, hj0⟩ _
        refine T_seq ?_
        refine T_seq ?_
        refine T_region ?_
        refine TL_q (Qt_move (.int .i64 _) rfl) rfl ?_
        refine TL_q (Qt_move (.int .i64 _) rfl) rfl ?_
        refine TL_q (Qt_val (Qt_rem rfl rfl (by omega)) (congrArg (Value.int .i64) (rem_nat k 64))) rfl ?_
        refine TL_q (Qt_lss rfl rfl) rfl ?_
        refine TL_nil ?_
        refine X_then ?_
        refine T_cond rfl (fun h62 => ?_) (fun h62 => ?_)
        ·
          have p62 := h62
          try simp only [decide_eq_true_eq, decide_eq_false_iff_not, Bool.not_eq_true', Bool.not_eq_false', Option.isNone_iff_eq_none, ne_eq, Decidable.not_not, Int.not_lt, Int.not_le] at p62
          refine T_skip ?_
          refine X_then ?_
          refine T_seq ?_
          refine T_block ?_
          refine T_region ?_
          refine TL_q (Qt_move (.int .u64 _) rfl) rfl ?_
          refine TL_q (Qt_val (Qt_quo rfl rfl (by omega)) (congrArg (Value.int .u64) (show _ = ((kp / 2 ^ (j + 1) : Nat) : Int) from by have := Nat.div_le_self kp (2 ^ j); rw [← div_pow]; exact quo_u64 _ (by omega)))) rfl ?_
          refine TL_q (Qt_assign (.int .u64 _) rfl) rfl ?_
          refine TL_nil ?_
          refine X_block ?_
          refine X_then ?_
          refine T_region ?_
          refine TL_q (Qt_move (.int .i64 _) rfl) rfl ?_
          first
            | refine TL_q (Qt_add rfl rfl (by omega) (by omega)) rfl ?_
            | refine TL_q (Qt_addw rfl rfl) rfl ?_
          refine TL_q (Qt_assign (.int .i64 _) rfl) rfl ?_
          refine TL_nil ?_
          apply X_loop
          case ha => exact (by repeat (first | with_reducible exact agree_refl | refine agree_upd rfl ?_ | refine agree_mix rfl ?_ | refine agree_setAll rfl ?_))
          case hI => exact ⟨j + 1, rfl, rfl, by omega⟩
          case hm => exact by show (k % 64) - (j + 1 : Int).toNat < (k % 64) - (j : Int).toNat; omega
          case hH => exact (Subs.st inferInstance)
        ·
          have p62 := h62
          try simp only [decide_eq_true_eq, decide_eq_false_iff_not, Bool.not_eq_true', Bool.not_eq_false', Option.isNone_iff_eq_none, ne_eq, Decidable.not_not, Int.not_lt, Int.not_le] at p62
          obtain rfl : j = k % 64 := by omega
          refine T_exit ?_
          refine X_then_exit ?_
          refine X_loop_exit ?_
          refine X_block_exit ?_
          refine X_then ?_
          refine T_seq ?_
          refine T_region ?_
          refine TL_q (Qt_move (.int .u64 _) rfl) rfl ?_
          refine TL_q (Qt_val (Qt_rem rfl rfl (by omega)) (congrArg (Value.int .u64) (show _ = ((kp / 2 ^ (k % 64) % 2 : Nat) : Int) from by have := Nat.div_le_self kp (2 ^ (k % 64)); exact rem_nat (kp / 2 ^ (k % 64)) 2))) rfl ?_
          refine TL_q (Qt_eql rfl rfl) rfl ?_
          refine TL_nil ?_
          refine X_then ?_
          refine T_cond rfl (fun h69 => ?_) (fun h69 => ?_)
          ·
            have p69 := h69
            try simp only [decide_eq_true_eq, decide_eq_false_iff_not, Bool.not_eq_true', Bool.not_eq_false', Option.isNone_iff_eq_none, ne_eq, Decidable.not_not, Int.not_lt, Int.not_le] at p69
            have hlf : lftR kp torn cut s.pend[k] k = some s.pend[k] := lftR_bit hnt (by omega)
            refine T_drawF (blk b5 (.cells s.pend[k].cells 34 (0, 0)) :: H) (by kernel_rfl) (Subs.st inferInstance) ?_
            refine DLF_q (i := 0) (by kernel_rfl) rfl (by kernel_rfl) (by kernel_rfl) (Qt_move (.pointer _) rfl) rfl ?_
            refine DLF_q (i := 1) (by kernel_rfl) rfl (by kernel_rfl) (by kernel_rfl) (Qt_move (.pointer _) rfl) rfl ?_
            refine DLF_q (i := 2) (by kernel_rfl) rfl (by kernel_rfl) (by kernel_rfl) (Qt_nilCheck rfl) rfl ?_
            refine DLF_q (i := 3) (by kernel_rfl) rfl (by kernel_rfl) (by kernel_rfl) (Qt_fieldAddr 1 rfl rfl) rfl ?_
            refine DLF_q (i := 5) (by kernel_rfl) rfl (by kernel_rfl) (by kernel_rfl) (Qt_loadN rfl rfl) rfl ?_
            refine DLF_1 (i := 4) (by kernel_rfl) ?_
            refine DLS_e rfl rfl (Ef_of_Qt (Qt_load1 rfl) ⟨(Subs.st inferInstance), ?_⟩)
            refine DLF_1 (i := 6) (by kernel_rfl) ?_
            have hok := hc.ri.ok hS
            have hat : RdC w0 (flA P.ff P.fls :: eachA P.fo P.xs :: H) (.slice sy.a sy.ls.length sy.c) 2 (sy.ls.flatMap FileV.list) := hok.syn
            have hat2 : RdC w0 (rblk q { s with syn := sy } :: rrow s :: flA P.ff P.fls :: eachA P.fo P.xs :: blk b5 (.cells s.pend[k].cells 34 (0, 0)) :: blk b3 (.cells (PlanV.mk (kp : Int) torn cut).cells 25 (0, 0)) :: H) (.slice sy.a sy.ls.length sy.c) 2 (sy.ls.flatMap FileV.list) := ⟨fun w hw => hat.rd w (Subs.st inferInstance w hw)⟩
            have hre : RdE w0 (rblk q { s with syn := sy } :: rrow s :: flA P.ff P.fls :: eachA P.fo P.xs :: blk b5 (.cells s.pend[k].cells 34 (0, 0)) :: blk b3 (.cells (PlanV.mk (kp : Int) torn cut).cells 25 (0, 0)) :: H) (sy.ls.map (·.b)) := ⟨fun y hy w hw => hok.syb.rd y hy w (Subs.st inferInstance w hw)⟩
            refine DLS_conv (fun w hw => (Subs.st inferInstance w hw : St w0 (rblk q { s with syn := sy } :: rrow s :: flA P.ff P.fls :: eachA P.fo P.xs :: blk b5 (.cells s.pend[k].cells 34 (0, 0)) :: blk b3 (.cells (PlanV.mk (kp : Int) torn cut).cells 25 (0, 0)) :: H) w)) ?_
            have hrb := hS _ (hs.own (List.getElem_mem hk))
            have hrl := hs.pl _ (List.getElem_mem hk)
            refine DLS_e rfl rfl (Ef_call (rdone_c (L := sy.ls) (a := sy.a) (c := sy.c) (ra := s.pend[k]) (B := B + 1000 * k) (by have := hc.ri.sl; have := hc.ri.pn; simp only at *; omega) hre hc.ri.bl (by have := hc.ri.pn; simp only at *; omega) (by omega)) rfl (fun x76 => ⟨(Subs.st inferInstance), ?_⟩))
            refine DLF_pure (fun h76 => ?_)
            refine DLF_q (i := 7) (by kernel_rfl) rfl (by kernel_rfl) (by kernel_rfl) (Qt_nilCheck rfl) rfl ?_
            refine DLF_q (i := 8) (by kernel_rfl) rfl (by kernel_rfl) (by kernel_rfl) (Qt_fieldAddr 1 rfl rfl) rfl ?_
            refine DLF_1 (i := 9) (by kernel_rfl) ?_
            refine DLS_n rfl (Ef_store1 (.slice _ _ _) rfl rfl (⟨(Subs.st inferInstance), ?_⟩))
            refine DLF_nil (by kernel_rfl) ?_
            refine X_block ?_
            refine X_then ?_
            refine T_region ?_
            refine TL_q (Qt_move (.int .i64 _) rfl) rfl ?_
            first
              | refine TL_q (Qt_add rfl rfl (by omega) (by omega)) rfl ?_
              | refine TL_q (Qt_addw rfl rfl) rfl ?_
            refine TL_q (Qt_assign (.int .i64 _) rfl) rfl ?_
            refine TL_nil ?_
            apply X_loop
            case ha => exact (by repeat (first | with_reducible exact agree_refl | refine agree_upd rfl ?_ | refine agree_mix rfl ?_ | refine agree_setAll rfl ?_))
            case hI => exact by first | exact ⟨k + 1, x54.M, P.add x54, rfl, rfl, by omega, hc.step hk hlf h54 hsx hrl hB⟩ | exact ⟨k + 1, x76.M, P.add x76, rfl, rfl, by omega, hc.step hk hlf h76 hsr hpl hB⟩ | exact ⟨k + 1, sy, P, rfl, rfl, by omega, hc.none hk hlf⟩
            case hm => exact by show s.pend.length - (k + 1 : Int).toNat < s.pend.length - (k : Int).toNat; omega
            case hH => exact by first | exact (fun w hw => rc_merge (y := x54) (Subs.st inferInstance w hw)) | exact (fun w hw => rc_merge (y := x76) (Subs.st inferInstance w hw)) | exact (Subs.st inferInstance)
          ·
            have p69 := h69
            try simp only [decide_eq_true_eq, decide_eq_false_iff_not, Bool.not_eq_true', Bool.not_eq_false', Option.isNone_iff_eq_none, ne_eq, Decidable.not_not, Int.not_lt, Int.not_le] at p69
            have hlf : lftR kp torn cut s.pend[k] k = none := lftR_no hnt (by omega)
            refine T_skip ?_
            refine X_block ?_
            refine X_then ?_
            refine T_region ?_
            refine TL_q (Qt_move (.int .i64 _) rfl) rfl ?_
            first
              | refine TL_q (Qt_add rfl rfl (by omega) (by omega)) rfl ?_
              | refine TL_q (Qt_addw rfl rfl) rfl ?_
            refine TL_q (Qt_assign (.int .i64 _) rfl) rfl ?_
            refine TL_nil ?_
            apply X_loop
            case ha => exact (by repeat (first | with_reducible exact agree_refl | refine agree_upd rfl ?_ | refine agree_mix rfl ?_ | refine agree_setAll rfl ?_))
            case hI => exact by first | exact ⟨k + 1, x54.M, P.add x54, rfl, rfl, by omega, hc.step hk hlf h54 hsx hrl hB⟩ | exact ⟨k + 1, x76.M, P.add x76, rfl, rfl, by omega, hc.step hk hlf h76 hsr hpl hB⟩ | exact ⟨k + 1, sy, P, rfl, rfl, by omega, hc.none hk hlf⟩
            case hm => exact by show s.pend.length - (k + 1 : Int).toNat < s.pend.length - (k : Int).toNat; omega
            case hH => exact by first | exact (fun w hw => rc_merge (y := x54) (Subs.st inferInstance w hw)) | exact (fun w hw => rc_merge (y := x76) (Subs.st inferInstance w hw)) | exact (Subs.st inferInstance)
    ·
      have p29 := h29
      try simp only [decide_eq_true_eq, decide_eq_false_iff_not, Bool.not_eq_true', Bool.not_eq_false', Option.isNone_iff_eq_none, ne_eq, Decidable.not_not, Int.not_lt, Int.not_le] at p29
      refine TL_pass rfl rfl h29 rfl ?_
      refine TL_pass rfl rfl h29 rfl ?_
      refine TL_pass rfl rfl h29 rfl ?_
      refine TL_q (Qt_pick_f (.bool _) rfl h29 rfl) rfl ?_
      refine TL_nil ?_
      refine X_then ?_
      refine T_cond_false rfl rfl ?_
      have hnt : ¬ ((k : Int) = torn ∧ s.pend[k].kind ≤ 1) := by first | (simp_all; done) | (rintro ⟨q1, q2⟩; simp_all) | (rintro ⟨q1, q2⟩; simp_all; omega)
      refine T_skip ?_
      refine X_then ?_
      refine T_seq ?_
      refine T_region ?_
      refine TL_q (Qt_fieldAddr 0 rfl rfl) rfl ?_
      refine TL_q (Qt_load1 rfl) rfl ?_
      refine TL_q (Qt_assign (.int .u64 _) rfl) rfl ?_
      refine TL_nil ?_
      refine X_then ?_
      refine T_seq ?_
      refine T_seq ?_
      refine T_region ?_
      refine TL_q (Qt_assign (.int .i64 _) rfl) rfl ?_
      refine TL_nil ?_
      refine X_then ?_
      refine T_block ?_
      refine T_loop [7, 8, 59, 60, 61, 62, 63, 64, 65, 66] [8, 7] (fun us H' => ∃ (j : Nat), us = [.int .i64 (j : Int), .int .u64 ((kp / 2 ^ j : Nat) : Int)] ∧ blk b5 (.cells s.pend[k].cells 34 (0, 0)) :: rblk q { s with syn := sy } :: rrow s :: flA P.ff P.fls :: eachA P.fo P.xs :: blk b3 (.cells (PlanV.mk (kp : Int) torn cut).cells 25 (0, 0)) :: H = H' ∧ j ≤ (k % 64)) (fun us => match us with | .int _ i :: _ => (k % 64) - i.toNat | _ => 0) ⟨0, (by rw [show kp / 2 ^ 0 = kp from Nat.div_one kp]; rfl), rfl, by omega⟩ (Subs.st inferInstance) ?_
      rintro τ1 _ _  ⟨j, rfl, rfl, hj0⟩ _
      refine T_seq ?_
      refine T_seq ?_
      refine T_region ?_
      refine TL_q (Qt_move (.int .i64 _) rfl) rfl ?_
      refine TL_q (Qt_move (.int .i64 _) rfl) rfl ?_
      refine TL_q (Qt_val (Qt_rem rfl rfl (by omega)) (congrArg (Value.int .i64) (rem_nat k 64))) rfl ?_
      refine TL_q (Qt_lss rfl rfl) rfl ?_
      refine TL_nil ?_
      refine X_then ?_
      refine T_cond rfl (fun h62 => ?_) (fun h62 => ?_)
      ·
        have p62 := h62
        try simp only [decide_eq_true_eq, decide_eq_false_iff_not, Bool.not_eq_true', Bool.not_eq_false', Option.isNone_iff_eq_none, ne_eq, Decidable.not_not, Int.not_lt, Int.not_le] at p62
        refine T_skip ?_
        refine X_then ?_
        refine T_seq ?_
        refine T_block ?_
        refine T_region ?_
        refine TL_q (Qt_move (.int .u64 _) rfl) rfl ?_
        refine TL_q (Qt_val (Qt_quo rfl rfl (by omega)) (congrArg (Value.int .u64) (show _ = ((kp / 2 ^ (j + 1) : Nat) : Int) from by have := Nat.div_le_self kp (2 ^ j); rw [← div_pow]; exact quo_u64 _ (by omega)))) rfl ?_
        refine TL_q (Qt_assign (.int .u64 _) rfl) rfl ?_
        refine TL_nil ?_
        refine X_block ?_
        refine X_then ?_
        refine T_region ?_
        refine TL_q (Qt_move (.int .i64 _) rfl) rfl ?_
        first
          | refine TL_q (Qt_add rfl rfl (by omega) (by omega)) rfl ?_
          | refine TL_q (Qt_addw rfl rfl) rfl ?_
        refine TL_q (Qt_assign (.int .i64 _) rfl) rfl ?_
        refine TL_nil ?_
        apply X_loop
        case ha => exact (by repeat (first | with_reducible exact agree_refl | refine agree_upd rfl ?_ | refine agree_mix rfl ?_ | refine agree_setAll rfl ?_))
        case hI => exact ⟨j + 1, rfl, rfl, by omega⟩
        case hm => exact by show (k % 64) - (j + 1 : Int).toNat < (k % 64) - (j : Int).toNat; omega
        case hH => exact (Subs.st inferInstance)
      ·
        have p62 := h62
        try simp only [decide_eq_true_eq, decide_eq_false_iff_not, Bool.not_eq_true', Bool.not_eq_false', Option.isNone_iff_eq_none, ne_eq, Decidable.not_not, Int.not_lt, Int.not_le] at p62
        obtain rfl : j = k % 64 := by omega
        refine T_exit ?_
        refine X_then_exit ?_
        refine X_loop_exit ?_
        refine X_block_exit ?_
        refine X_then ?_
        refine T_seq ?_
        refine T_region ?_
        refine TL_q (Qt_move (.int .u64 _) rfl) rfl ?_
        refine TL_q (Qt_val (Qt_rem rfl rfl (by omega)) (congrArg (Value.int .u64) (show _ = ((kp / 2 ^ (k % 64) % 2 : Nat) : Int) from by have := Nat.div_le_self kp (2 ^ (k % 64)); exact rem_nat (kp / 2 ^ (k % 64)) 2))) rfl ?_
        refine TL_q (Qt_eql rfl rfl) rfl ?_
        refine TL_nil ?_
        refine X_then ?_
        refine T_cond rfl (fun h69 => ?_) (fun h69 => ?_)
        ·
          have p69 := h69
          try simp only [decide_eq_true_eq, decide_eq_false_iff_not, Bool.not_eq_true', Bool.not_eq_false', Option.isNone_iff_eq_none, ne_eq, Decidable.not_not, Int.not_lt, Int.not_le] at p69
          have hlf : lftR kp torn cut s.pend[k] k = some s.pend[k] := lftR_bit hnt (by omega)
          refine T_drawF (blk b5 (.cells s.pend[k].cells 34 (0, 0)) :: H) (by kernel_rfl) (Subs.st inferInstance) ?_
          refine DLF_q (i := 0) (by kernel_rfl) rfl (by kernel_rfl) (by kernel_rfl) (Qt_move (.pointer _) rfl) rfl ?_
          refine DLF_q (i := 1) (by kernel_rfl) rfl (by kernel_rfl) (by kernel_rfl) (Qt_move (.pointer _) rfl) rfl ?_
          refine DLF_q (i := 2) (by kernel_rfl) rfl (by kernel_rfl) (by kernel_rfl) (Qt_nilCheck rfl) rfl ?_
          refine DLF_q (i := 3) (by kernel_rfl) rfl (by kernel_rfl) (by kernel_rfl) (Qt_fieldAddr 1 rfl rfl) rfl ?_
          refine DLF_q (i := 5) (by kernel_rfl) rfl (by kernel_rfl) (by kernel_rfl) (Qt_loadN rfl rfl) rfl ?_
          refine DLF_1 (i := 4) (by kernel_rfl) ?_
          refine DLS_e rfl rfl (Ef_of_Qt (Qt_load1 rfl) ⟨(Subs.st inferInstance), ?_⟩)
          refine DLF_1 (i := 6) (by kernel_rfl) ?_
          have hok := hc.ri.ok hS
          have hat : RdC w0 (flA P.ff P.fls :: eachA P.fo P.xs :: H) (.slice sy.a sy.ls.length sy.c) 2 (sy.ls.flatMap FileV.list) := hok.syn
          have hat2 : RdC w0 (rblk q { s with syn := sy } :: rrow s :: flA P.ff P.fls :: eachA P.fo P.xs :: blk b5 (.cells s.pend[k].cells 34 (0, 0)) :: blk b3 (.cells (PlanV.mk (kp : Int) torn cut).cells 25 (0, 0)) :: H) (.slice sy.a sy.ls.length sy.c) 2 (sy.ls.flatMap FileV.list) := ⟨fun w hw => hat.rd w (Subs.st inferInstance w hw)⟩
          have hre : RdE w0 (rblk q { s with syn := sy } :: rrow s :: flA P.ff P.fls :: eachA P.fo P.xs :: blk b5 (.cells s.pend[k].cells 34 (0, 0)) :: blk b3 (.cells (PlanV.mk (kp : Int) torn cut).cells 25 (0, 0)) :: H) (sy.ls.map (·.b)) := ⟨fun y hy w hw => hok.syb.rd y hy w (Subs.st inferInstance w hw)⟩
          refine DLS_conv (fun w hw => (Subs.st inferInstance w hw : St w0 (rblk q { s with syn := sy } :: rrow s :: flA P.ff P.fls :: eachA P.fo P.xs :: blk b5 (.cells s.pend[k].cells 34 (0, 0)) :: blk b3 (.cells (PlanV.mk (kp : Int) torn cut).cells 25 (0, 0)) :: H) w)) ?_
          have hrb := hS _ (hs.own (List.getElem_mem hk))
          have hrl := hs.pl _ (List.getElem_mem hk)
          refine DLS_e rfl rfl (Ef_call (rdone_c (L := sy.ls) (a := sy.a) (c := sy.c) (ra := s.pend[k]) (B := B + 1000 * k) (by have := hc.ri.sl; have := hc.ri.pn; simp only at *; omega) hre hc.ri.bl (by have := hc.ri.pn; simp only at *; omega) (by omega)) rfl (fun x76 => ⟨(Subs.st inferInstance), ?_⟩))
          refine DLF_pure (fun h76 => ?_)
          refine DLF_q (i := 7) (by kernel_rfl) rfl (by kernel_rfl) (by kernel_rfl) (Qt_nilCheck rfl) rfl ?_
          refine DLF_q (i := 8) (by kernel_rfl) rfl (by kernel_rfl) (by kernel_rfl) (Qt_fieldAddr 1 rfl rfl) rfl ?_
          refine DLF_1 (i := 9) (by kernel_rfl) ?_
          refine DLS_n rfl (Ef_store1 (.slice _ _ _) rfl rfl (⟨(Subs.st inferInstance), ?_⟩))
          refine DLF_nil (by kernel_rfl) ?_
          refine X_block ?_
          refine X_then ?_
          refine T_region ?_
          refine TL_q (Qt_move (.int .i64 _) rfl) rfl ?_
          first
            | refine TL_q (Qt_add rfl rfl (by omega) (by omega)) rfl ?_
            | refine TL_q (Qt_addw rfl rfl) rfl ?_
          refine TL_q (Qt_assign (.int .i64 _) rfl) rfl ?_
          refine TL_nil ?_
          apply X_loop
          case ha => exact (by repeat (first | with_reducible exact agree_refl | refine agree_upd rfl ?_ | refine agree_mix rfl ?_ | refine agree_setAll rfl ?_))
          case hI => exact by first | exact ⟨k + 1, x54.M, P.add x54, rfl, rfl, by omega, hc.step hk hlf h54 hsx hrl hB⟩ | exact ⟨k + 1, x76.M, P.add x76, rfl, rfl, by omega, hc.step hk hlf h76 hsr hpl hB⟩ | exact ⟨k + 1, sy, P, rfl, rfl, by omega, hc.none hk hlf⟩
          case hm => exact by show s.pend.length - (k + 1 : Int).toNat < s.pend.length - (k : Int).toNat; omega
          case hH => exact by first | exact (fun w hw => rc_merge (y := x54) (Subs.st inferInstance w hw)) | exact (fun w hw => rc_merge (y := x76) (Subs.st inferInstance w hw)) | exact (Subs.st inferInstance)
        ·
          have p69 := h69
          try simp only [decide_eq_true_eq, decide_eq_false_iff_not, Bool.not_eq_true', Bool.not_eq_false', Option.isNone_iff_eq_none, ne_eq, Decidable.not_not, Int.not_lt, Int.not_le] at p69
          have hlf : lftR kp torn cut s.pend[k] k = none := lftR_no hnt (by omega)
          refine T_skip ?_
          refine X_block ?_
          refine X_then ?_
          refine T_region ?_
          refine TL_q (Qt_move (.int .i64 _) rfl) rfl ?_
          first
            | refine TL_q (Qt_add rfl rfl (by omega) (by omega)) rfl ?_
            | refine TL_q (Qt_addw rfl rfl) rfl ?_
          refine TL_q (Qt_assign (.int .i64 _) rfl) rfl ?_
          refine TL_nil ?_
          apply X_loop
          case ha => exact (by repeat (first | with_reducible exact agree_refl | refine agree_upd rfl ?_ | refine agree_mix rfl ?_ | refine agree_setAll rfl ?_))
          case hI => exact by first | exact ⟨k + 1, x54.M, P.add x54, rfl, rfl, by omega, hc.step hk hlf h54 hsx hrl hB⟩ | exact ⟨k + 1, x76.M, P.add x76, rfl, rfl, by omega, hc.step hk hlf h76 hsr hpl hB⟩ | exact ⟨k + 1, sy, P, rfl, rfl, by omega, hc.none hk hlf⟩
          case hm => exact by show s.pend.length - (k + 1 : Int).toNat < s.pend.length - (k : Int).toNat; omega
          case hH => exact by first | exact (fun w hw => rc_merge (y := x54) (Subs.st inferInstance w hw)) | exact (fun w hw => rc_merge (y := x76) (Subs.st inferInstance w hw)) | exact (Subs.st inferInstance)
  ·
    have p15 := h15
    try simp only [decide_eq_true_eq, decide_eq_false_iff_not, Bool.not_eq_true', Bool.not_eq_false', Option.isNone_iff_eq_none, ne_eq, Decidable.not_not, Int.not_lt, Int.not_le] at p15
    obtain rfl : k = s.pend.length := by omega
    refine T_exit ?_
    refine X_then_exit ?_
    refine X_loop_exit ?_
    refine X_block_exit ?_
    refine X_then ?_
    refine T_seq ?_
    refine T_region ?_
    refine TL_q (Qt_move (.pointer _) rfl) rfl ?_
    refine TL_q (Qt_nilCheck rfl) rfl ?_
    refine TL_q (Qt_fieldAddr 2 rfl rfl) rfl ?_
    refine TL_n (Ef_store1 (.slice _ _ _) rfl rfl (?_))
    refine TL_nil ?_
    refine X_then ?_
    refine T_seq ?_
    refine T_region ?_
    refine TL_q (Qt_move (.pointer _) rfl) rfl ?_
    refine TL_q (Qt_nilCheck rfl) rfl ?_
    refine TL_q (Qt_fieldAddr 3 rfl rfl) rfl ?_
    refine TL_n (Ef_store1 (.int .i64 _) rfl rfl (?_))
    refine TL_nil ?_
    refine X_then ?_
    refine T_region ?_
    refine TL_q (Qt_move (.pointer _) rfl) rfl ?_
    refine TL_q (Qt_nilCheck rfl) rfl ?_
    refine TL_q (Qt_fieldAddr 4 rfl rfl) rfl ?_
    refine TL_n (Ef_store1 (.bool _) rfl rfl (?_))
    refine TL_nil ?_
    exact X_ret (sy, P) [] Try.results43 trivial rfl (fun w hw => (rc_end (Subs.st inferInstance w hw)).addPure hc)
end Go.Proofs.Ytededghplnoajaa
