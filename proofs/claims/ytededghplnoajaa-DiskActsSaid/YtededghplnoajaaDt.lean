/- The reference of disks: what acts leave of files. -/
import Derived.Test.YtededghplnoajaaDs
namespace Go.Proofs.Ytededghplnoajaa
open Go.RowKit Go.Sx
set_option maxRecDepth 100000
set_option linter.unusedSimpArgs false
set_option linter.unusedVariables false
theorem findC_cons (f : FileV) (L : List FileV) (k : ByteArray) : findC (f :: L) k = if f.name = k then some f.b.l else findC L k := by
  unfold findC
  by_cases h : f.name = k <;> simp [h]
theorem find_outV (nm k : ByteArray) : ∀ L : List FileV, findC (outV L nm) k = if k = nm then none else findC L k
  | [] => by simp [outV, findC]
  | f :: L => by
    have ih := find_outV nm k L
    unfold outV at ih ⊢
    rw [List.filter_cons]
    by_cases h : f.name = nm
    · rw [if_neg (by simpa using h), ih, findC_cons]
      by_cases hk : k = nm
      · rw [if_pos hk, if_pos hk]
      · rw [if_neg hk, if_neg hk, if_neg (fun hh => hk (hh.symm.trans h))]
    · rw [if_pos (by simpa using h), findC_cons, ih, findC_cons]
      by_cases hf : f.name = k
      · rw [if_pos hf, if_pos hf, if_neg (fun hk => h (hf.trans hk))]
      · rw [if_neg hf, if_neg hf]
theorem find_goV (nm k : ByteArray) (b : BS) : ∀ L : List FileV, findC (goV nm b false L) k = if k = nm then some b.l else findC L k
  | [] => by
    rw [goV, findC_cons]
    by_cases h : k = nm
    · rw [if_pos h.symm, if_pos h]
    · rw [if_neg (fun hh => h hh.symm), if_neg h]
  | f :: L => by
    have ih := find_goV nm k b L
    rw [goV]
    by_cases h : f.name = nm
    · rw [if_pos h, ih, findC_cons]
      by_cases hk : k = nm
      · rw [if_pos hk, if_pos hk]
      · rw [if_neg hk, if_neg hk, if_neg (fun hh => hk (hh.symm.trans h))]
    · rw [if_neg h]
      split
      · rw [findC_cons, findC_cons, find_outV, findC_cons]
        by_cases hk : k = nm
        · rw [if_pos hk.symm, if_pos hk]
        · rw [if_neg (fun hh => hk hh.symm), if_neg hk, if_neg hk]
      · rw [findC_cons, ih, findC_cons]
        by_cases hf : f.name = k
        · rw [if_pos hf, if_pos hf, if_neg (fun hk => h (hf.trans hk))]
        · rw [if_neg hf, if_neg hf]
theorem mem_outV {L : List FileV} {nm : ByteArray} {f : FileV} (h : f ∈ outV L nm) : f ∈ L ∧ f.name ≠ nm := by
  have := List.mem_filter.1 h
  exact ⟨this.1, by simpa using this.2⟩
theorem mem_goV {nm : ByteArray} {b : BS} : ∀ {L : List FileV} {f : FileV}, f ∈ goV nm b false L → f = ⟨nm, b⟩ ∨ f ∈ L
  | [], f, h => .inl (by simpa [goV] using h)
  | g :: L, f, h => by
    rw [goV] at h
    split at h
    · rcases mem_goV h with h | h
      · exact .inl h
      · exact .inr (List.mem_cons_of_mem _ h)
    · split at h
      · rcases List.mem_cons.1 h with h | h
        · exact .inl h
        · rcases List.mem_cons.1 h with h | h
          · exact .inr (h ▸ List.mem_cons_self ..)
          · exact .inr (List.mem_cons_of_mem _ (mem_outV h).1)
      · rcases List.mem_cons.1 h with h | h
        · exact .inr (h ▸ List.mem_cons_self ..)
        · rcases mem_goV h with h | h
          · exact .inl h
          · exact .inr (List.mem_cons_of_mem _ h)
theorem outV_len (L : List FileV) (nm : ByteArray) : (outV L nm).length ≤ L.length := List.length_filter_le _ _
theorem goV_len (nm : ByteArray) (b : BS) : ∀ L : List FileV, (goV nm b false L).length ≤ L.length + 1
  | [] => by simp [goV]
  | g :: L => by
    have ih := goV_len nm b L
    have h2 := outV_len L nm
    rw [goV]
    split
    · simp only [List.length_cons]; omega
    · split <;> simp only [List.length_cons] <;> omega
def srt (L : List FileV) : Prop := L.Pairwise fun x y => keyB x.name < keyB y.name
theorem srt_goV {nm : ByteArray} {b : BS} : ∀ {L : List FileV}, srt L → srt (goV nm b false L)
  | [], _ => by simp [goV, srt]
  | g :: L, h => by
    have h0 := h
    unfold srt at h
    rw [List.pairwise_cons] at h
    rw [goV]
    split
    · exact srt_goV h.2
    · rename_i hne
      split
      · rename_i hlt
        refine List.pairwise_cons.2 ⟨fun y hy => ?_, List.pairwise_cons.2 ⟨fun y hy => h.1 y (mem_outV hy).1, List.Pairwise.filter _ h.2⟩⟩
        rcases List.mem_cons.1 hy with hy | hy
        · rw [hy]; exact hlt
        · exact List.lt_trans hlt (h.1 y (mem_outV hy).1)
      · rename_i hlt
        refine List.pairwise_cons.2 ⟨fun y hy => ?_, srt_goV h.2⟩
        rcases mem_goV hy with hy | hy
        · rw [hy]
          show keyB g.name < keyB nm
          refine Decidable.byContradiction fun h3 => hne (keyB_inj (List.le_antisymm (List.not_lt.1 hlt) (List.not_lt.1 h3)))
        · exact h.1 y hy
/-- A sorted list of files holds this. -/
structure Rep (M : List FileV) (f : Cont) : Prop where
  sorted : srt M
  fnd : findC M = f
theorem Rep.nil : Rep [] (fun _ => none) := ⟨List.Pairwise.nil, rfl⟩
theorem Rep.out {M : List FileV} {f : Cont} (h : Rep M f) (nm : ByteArray) : Rep (outV M nm) (fun k => if k = nm then none else f k) :=
  ⟨List.Pairwise.filter _ h.sorted, by funext k; rw [find_outV, h.fnd]⟩
theorem Rep.with {M : List FileV} {f : Cont} (h : Rep M f) (nm : ByteArray) (b : BS) : Rep (withV M nm b) (fun k => if k = nm then some b.l else f k) :=
  ⟨by rw [withV_eq]; exact srt_goV h.sorted, by funext k; rw [withV_eq, find_goV, h.fnd]⟩
def acV (ra : RActV) : ActV := ⟨ra.kind + 1, ra.name, ra.to, ra.b⟩
theorem doF1 {f : Cont} {a : ActV} (h : a.kind = 1) : doF f a = fun k => if k = a.name then some ((f a.name).getD [] ++ a.b.l) else f k := by
  funext k; unfold doF; rw [if_pos h]
theorem doF2 {f : Cont} {a : ActV} (h : a.kind = 2) : doF f a = fun k => if k = a.name then some a.b.l else f k := by
  funext k; unfold doF; rw [if_neg (show ¬ a.kind = 1 by omega), if_pos h]
theorem doF3 {f : Cont} {a : ActV} (h : a.kind = 3) : doF f a = fun k => if (f a.name).isSome = true ∧ a.name ≠ a.to then (if k = a.to then f a.name else if k = a.name then none else f k) else f k := by
  funext k; unfold doF; rw [if_neg (show ¬ a.kind = 1 by omega), if_neg (show ¬ a.kind = 2 by omega), if_pos h]
theorem doF4 {f : Cont} {a : ActV} (h : a.kind = 4) : doF f a = fun k => if k = a.name then none else f k := by
  funext k; unfold doF; rw [if_neg (show ¬ a.kind = 1 by omega), if_neg (show ¬ a.kind = 2 by omega), if_neg (show ¬ a.kind = 3 by omega), if_pos h]
theorem doF0 {f : Cont} {a : ActV} (h1 : a.kind ≠ 1) (h2 : a.kind ≠ 2) (h3 : a.kind ≠ 3) (h4 : a.kind ≠ 4) : doF f a = f := by
  funext k; unfold doF; rw [if_neg h1, if_neg h2, if_neg h3, if_neg h4]
theorem Rep.app {M : List FileV} {f : Cont} (h : Rep M f) {ra : RActV} (hk : ra.kind = 0) {x : BS} (hx : x.l = (fndB M ra.name).l ++ ra.b.l) : Rep (withV M ra.name x) (doF f (acV ra)) := by
  have h1 := h.with ra.name x
  rw [hx, fndB_l, h.fnd] at h1
  rw [doF1 (show ra.kind + 1 = 1 by omega)]
  exact h1
theorem Rep.wri {M : List FileV} {f : Cont} (h : Rep M f) {ra : RActV} (hk : ra.kind = 1) : Rep (withV M ra.name ra.b) (doF f (acV ra)) := by
  rw [doF2 (show ra.kind + 1 = 2 by omega)]
  exact h.with ra.name ra.b
theorem Rep.ren {M : List FileV} {f : Cont} (h : Rep M f) {ra : RActV} (hk : ra.kind = 2) (hs : (findC M ra.name).isSome = true) : Rep (withV (outV M ra.name) ra.to (fndB M ra.name)) (doF f (acV ra)) := by
  have h1 := (h.out ra.name).with ra.to (fndB M ra.name)
  rw [h.fnd] at hs
  obtain ⟨l, hl⟩ := Option.isSome_iff_exists.1 hs
  rw [fndB_l, h.fnd, hl] at h1
  have e : doF f (acV ra) = fun k => if k = ra.to then some ((some l).getD []) else if k = ra.name then none else f k := by
    rw [doF3 (show ra.kind + 1 = 3 by omega)]
    funext k
    show (if (f ra.name).isSome = true ∧ ra.name ≠ ra.to then (if k = ra.to then f ra.name else if k = ra.name then none else f k) else f k) = _
    by_cases hn : ra.name = ra.to
    · rw [if_neg (fun hh => hh.2 hn)]
      by_cases hk : k = ra.to
      · rw [if_pos hk, hk, ← hn, hl]; rfl
      · rw [if_neg hk, if_neg (fun hh => hk (hh.trans hn))]
    · rw [if_pos ⟨hs, hn⟩, hl]; rfl
  rw [e]; exact h1
theorem Rep.ren0 {M : List FileV} {f : Cont} (h : Rep M f) {ra : RActV} (hk : ra.kind = 2) (hs : (findC M ra.name).isSome = false) : Rep M (doF f (acV ra)) := by
  rw [h.fnd] at hs
  have e : doF f (acV ra) = f := by
    rw [doF3 (show ra.kind + 1 = 3 by omega)]
    funext k
    exact if_neg (fun hh => by have := hh.1; rw [show (f (acV ra).name).isSome = false from hs] at this; cases this)
  rw [e]; exact h
theorem Rep.rem {M : List FileV} {f : Cont} (h : Rep M f) {ra : RActV} (hk : ra.kind = 3) : Rep (outV M ra.name) (doF f (acV ra)) := by
  rw [doF4 (show ra.kind + 1 = 4 by omega)]
  exact h.out ra.name
theorem Rep.idle {M : List FileV} {f : Cont} (h : Rep M f) {ra : RActV} (h0 : ra.kind ≠ 0) (h1 : ra.kind ≠ 1) (h2 : ra.kind ≠ 2) (h3 : ra.kind ≠ 3) : Rep M (doF f (acV ra)) := by
  rw [doF0 (show ra.kind + 1 ≠ 1 by omega) (show ra.kind + 1 ≠ 2 by omega) (show ra.kind + 1 ≠ 3 by omega) (show ra.kind + 1 ≠ 4 by omega)]
  exact h
/-- What a function of the reference lays: a list, its bytes. -/
structure DO where
  M : FL
  xs : List BS
  fo : List Nat
  fls : List FL
  ff : List Nat
structure DoneOk (B : Nat) (L0 : FL) (ra : RActV) (y : DO) : Prop where
  at_ : y.M ∈ y.fls ∨ y.M = L0
  rep : ∀ f, Rep L0.ls f → Rep y.M.ls (doF f (acV ra))
  src : ∀ g ∈ y.M.ls, g.b ∈ y.xs ∨ g.b ∈ L0.ls.map (·.b) ∨ g.b = ra.b ∨ g.b = zB
  len : y.M.ls.length ≤ L0.ls.length + 1
  bnd : ∀ x ∈ y.xs, x.l.length ≤ B + ra.b.l.length
theorem done_end {w0 w : World} {H : List SA} {x : BS} {M : FL} {e e' : TypeId} (h : St w0 (row (.slice x.a x.l.length x.c) e 1 (bytesV x.l) :: row (.slice M.a M.ls.length M.c) e' 2 (M.ls.flatMap FileV.list) :: H) w) :
    St w0 (flA (rowFp M.val ++ []) [M] :: eachA (rowFp (BS.val x) ++ []) ([] ++ [x]) :: H) w := by
  have h1 : St w0 (row (BS.val x) e 1 (bytesV x.l) :: eachA [] [] :: row (.slice M.a M.ls.length M.c) e' 2 (M.ls.flatMap FileV.list) :: H) w := Subs.st inferInstance w h.eachNil
  have h2 := h1.eachAdd
  have h3 : St w0 (row (.slice M.a M.ls.length M.c) e' 2 (M.ls.flatMap FileV.list) :: flA [] [] :: eachA (rowFp (BS.val x) ++ []) ([] ++ [x]) :: H) w := Subs.st inferInstance w (St.flNil h2)
  exact St.flAdd h3
theorem fnd_rd {w0 : World} {H : List SA} {L : List FileV} (h : RdE w0 H (L.map (·.b))) (k : ByteArray) : RdB w0 H (.slice (fndB L k).a (fndB L k).l.length (fndB L k).c) (fndB L k).l := by
  rcases List.mem_cons.1 (fndB_mem L k) with h1 | h1
  · rw [h1]; exact RdB.nil'
  · exact h.get h1
theorem fnd_le {L : List FileV} {B : Nat} (h : ∀ x ∈ L.map (·.b), x.l.length ≤ B) (k : ByteArray) : (fndB L k).l.length ≤ B := by
  rcases List.mem_cons.1 (fndB_mem L k) with h1 | h1
  · rw [h1]; exact Nat.zero_le _
  · exact h _ h1

set_option maxHeartbeats 1000000 in
theorem rdone_c {w0 : World} {H : List SA} {a : Option Addr} {L : List FileV} {c : Nat} {ra : RActV} {B : Nat} [hr : RdC w0 H (.slice a L.length c) 2 (L.flatMap FileV.list)] (hn : L.length ≤ 100000) (hre : RdE w0 H (L.map (·.b))) (hB : ∀ x ∈ L.map (·.b), x.l.length ≤ B) (hBm : B ≤ 2000000000) (hb : ra.b.l.length ≤ 1000) [rb : RdB w0 H (.slice ra.b.a ra.b.l.length ra.b.c) ra.b.l] :
    CT Try.prog w0 (H) 46 [.slice a L.length c, .agg ra.cells] (α := DO) (fun y => .slice y.M.a y.M.ls.length y.M.c) (fun y => pu (DoneOk B ⟨a, c, L⟩ ra y) :: flA y.ff y.fls :: eachA y.fo y.xs :: H) := by
  refine CT_intro Try.func46 rfl Try.ntmps46 rfl ?_
  refine T_seq ?_
  refine T_region ?_
  refine TL_e rfl (Ef_boxN rfl (fun b3 => ?_))
  refine TL_q (Qt_assign (.slice _ _ _) rfl) rfl ?_
  refine TL_nil ?_
  refine X_then ?_
  refine T_seq ?_
  refine T_region ?_
  refine TL_q (Qt_move (.slice _ _ _) rfl) rfl ?_
  refine TL_q (Qt_fieldAddr 1 rfl rfl) rfl ?_
  refine TL_q (Qt_load1 rfl) rfl ?_
  refine TL_e rfl (Ef_call (find_c (L := L) (by omega) (nm := ra.name)) rfl (fun x11 => ?_))
  have hfr := fnd_rd hre ra.name
  have hfl := fnd_le hB ra.name
  refine TL_q (Qt_move (.tuple _) rfl) rfl ?_
  refine TL_q (Qt_extract rfl) rfl ?_
  refine TL_q (Qt_extract rfl) rfl ?_
  refine TL_q (Qt_assign (.slice _ _ _) rfl) rfl ?_
  refine TL_q (Qt_assign (.bool _) rfl) rfl ?_
  refine TL_nil ?_
  refine X_then ?_
  refine T_seq ?_
  refine T_seq ?_
  refine T_region ?_
  refine TL_q (Qt_fieldAddr 0 rfl rfl) rfl ?_
  refine TL_q (Qt_load1 rfl) rfl ?_
  refine TL_nil ?_
  refine X_then ?_
  refine T_block ?_
  refine T_seq ?_
  refine T_region ?_
  refine TL_q (Qt_eql rfl rfl) rfl ?_
  refine TL_q (Qt_assign (.bool _) rfl) rfl ?_
  refine TL_nil ?_
  refine X_then ?_
  refine T_cond rfl (fun h16 => ?_) (fun h16 => ?_)
  ·
    have p16 := h16
    try simp only [decide_eq_true_eq, decide_eq_false_iff_not, Bool.not_eq_true', Bool.not_eq_false', Option.isNone_iff_eq_none, ne_eq, Decidable.not_not, Int.not_lt, Int.not_le] at p16
    refine T_seq ?_
    refine T_draw (blk b3 (.cells ra.cells 34 (0, 0)) :: H) [(0, true), (1, true), (2, true), (3, true), (4, true), (5, true), (6, false), (7, false), (8, true)] (by kernel_rfl) (by kernel_rfl) rfl (by kernel_rfl) (Subs.st inferInstance) (fun hns0 => ?_)
    refine DL_q hns0 rfl (Qt_move (.slice _ _ _) rfl) rfl ?_
    refine DL_q hns0 rfl (Qt_fieldAddr 1 rfl rfl) rfl ?_
    refine DL_q hns0 rfl (Qt_load1 rfl) rfl ?_
    refine DL_q hns0 rfl (Qt_move (.slice _ _ _) rfl) rfl ?_
    refine DL_q hns0 rfl (Qt_fieldAddr 3 rfl rfl) rfl ?_
    refine DL_q hns0 rfl (Qt_load1 rfl) rfl ?_
    refine DL_e rfl rfl (Ef_call (join_c (l := (fndB L ra.name).l) (l2 := ra.b.l) (by omega)) rfl (fun x24 => ⟨(Subs.st inferInstance), ?_⟩))
    refine DL_e rfl rfl (Ef_call (with_c (L := L) (by omega) (nm := ra.name) (b := ⟨x24.a, x24.c, (fndB L ra.name).l ++ ra.b.l⟩)) rfl (fun x25 => ⟨(Subs.st inferInstance), ?_⟩))
    refine DL_q hns0 rfl (Qt_assign (.slice _ _ _) rfl) rfl ?_
    refine DL_nil ?_
    refine X_then ?_
    refine T_ret ?_
    refine X_block_ret ?_
    refine X_then_ret ?_
    exact X_ret (⟨⟨x25.a, x25.c, withV L ra.name ⟨x24.a, x24.c, (fndB L ra.name).l ++ ra.b.l⟩⟩, [] ++ [⟨x24.a, x24.c, (fndB L ra.name).l ++ ra.b.l⟩], rowFp (BS.val ⟨x24.a, x24.c, (fndB L ra.name).l ++ ra.b.l⟩) ++ [], [⟨x25.a, x25.c, withV L ra.name ⟨x24.a, x24.c, (fndB L ra.name).l ++ ra.b.l⟩⟩], rowFp (FL.val ⟨x25.a, x25.c, withV L ra.name ⟨x24.a, x24.c, (fndB L ra.name).l ++ ra.b.l⟩⟩) ++ []⟩ : DO) [_] Try.results46 ⟨rfl, trivial⟩ rfl (fun w hw => (done_end (x := ⟨x24.a, x24.c, (fndB L ra.name).l ++ ra.b.l⟩) (M := ⟨x25.a, x25.c, withV L ra.name ⟨x24.a, x24.c, (fndB L ra.name).l ++ ra.b.l⟩⟩) (e := 5) (e' := 81) (H := H) (Subs.st inferInstance w hw)).addPure ⟨.inl (List.mem_singleton.2 rfl), fun f hf => hf.app (by omega) rfl, fun g hg => by rcases mem_goV (by rw [← withV_eq]; exact hg) with h | h; (subst h; exact .inl (List.mem_singleton.2 rfl)); exact .inr (.inl (List.mem_map.2 ⟨g, h, rfl⟩)), by show (withV _ _ _).length ≤ _; rw [withV_eq]; exact goV_len _ _ _, fun x hx => by obtain rfl : x = (⟨x24.a, x24.c, (fndB L ra.name).l ++ ra.b.l⟩ : BS) := (by simpa using hx); show ((fndB L ra.name).l ++ ra.b.l).length ≤ _; rw [List.length_append]; omega⟩)
  ·
    have p16 := h16
    try simp only [decide_eq_true_eq, decide_eq_false_iff_not, Bool.not_eq_true', Bool.not_eq_false', Option.isNone_iff_eq_none, ne_eq, Decidable.not_not, Int.not_lt, Int.not_le] at p16
    refine T_seq ?_
    refine T_region ?_
    refine TL_q (Qt_eql rfl rfl) rfl ?_
    refine TL_q (Qt_assign (.bool _) rfl) rfl ?_
    refine TL_nil ?_
    refine X_then ?_
    refine T_cond rfl (fun h26 => ?_) (fun h26 => ?_)
    ·
      have p26 := h26
      try simp only [decide_eq_true_eq, decide_eq_false_iff_not, Bool.not_eq_true', Bool.not_eq_false', Option.isNone_iff_eq_none, ne_eq, Decidable.not_not, Int.not_lt, Int.not_le] at p26
      refine T_seq ?_
      refine T_region ?_
      refine TL_q (Qt_move (.slice _ _ _) rfl) rfl ?_
      refine TL_q (Qt_fieldAddr 1 rfl rfl) rfl ?_
      refine TL_q (Qt_load1 rfl) rfl ?_
      refine TL_q (Qt_fieldAddr 3 rfl rfl) rfl ?_
      refine TL_q (Qt_load1 rfl) rfl ?_
      refine TL_e rfl (Ef_call (with_c (L := L) (by omega) (nm := ra.name) (b := ra.b)) rfl (fun x33 => ?_))
      refine TL_q (Qt_assign (.slice _ _ _) rfl) rfl ?_
      refine TL_nil ?_
      refine X_then ?_
      refine T_ret ?_
      refine X_block_ret ?_
      refine X_then_ret ?_
      exact X_ret (⟨⟨x33.a, x33.c, withV L ra.name ra.b⟩, [] ++ [zB], rowFp (BS.val zB) ++ [], [⟨x33.a, x33.c, withV L ra.name ra.b⟩], rowFp (FL.val ⟨x33.a, x33.c, withV L ra.name ra.b⟩) ++ []⟩ : DO) [_] Try.results46 ⟨rfl, trivial⟩ rfl (fun w hw => (done_end (x := zB) (M := ⟨x33.a, x33.c, withV L ra.name ra.b⟩) (e := 5) (e' := 81) (H := H) ((Subs.st inferInstance w hw : St w0 (row (.slice (FL.mk x33.a x33.c (withV L ra.name ra.b)).a (FL.mk x33.a x33.c (withV L ra.name ra.b)).ls.length (FL.mk x33.a x33.c (withV L ra.name ra.b)).c) 81 2 ((FL.mk x33.a x33.c (withV L ra.name ra.b)).ls.flatMap FileV.list) :: H) w).addNilB 5)).addPure ⟨.inl (List.mem_singleton.2 rfl), fun f hf => hf.wri (by omega), fun g hg => by rcases mem_goV (by rw [← withV_eq]; exact hg) with h | h; (subst h; exact .inr (.inr (.inl rfl))); exact .inr (.inl (List.mem_map.2 ⟨g, h, rfl⟩)), by show (withV _ _ _).length ≤ _; rw [withV_eq]; exact goV_len _ _ _, fun x hx => by obtain rfl : x = zB := (by simpa using hx); exact Nat.zero_le _⟩)
    ·
      have p26 := h26
      try simp only [decide_eq_true_eq, decide_eq_false_iff_not, Bool.not_eq_true', Bool.not_eq_false', Option.isNone_iff_eq_none, ne_eq, Decidable.not_not, Int.not_lt, Int.not_le] at p26
      refine T_seq ?_
      refine T_region ?_
      refine TL_q (Qt_eql rfl rfl) rfl ?_
      refine TL_q (Qt_assign (.bool _) rfl) rfl ?_
      refine TL_nil ?_
      refine X_then ?_
      refine T_cond rfl (fun h34 => ?_) (fun h34 => ?_)
      ·
        have p34 := h34
        try simp only [decide_eq_true_eq, decide_eq_false_iff_not, Bool.not_eq_true', Bool.not_eq_false', Option.isNone_iff_eq_none, ne_eq, Decidable.not_not, Int.not_lt, Int.not_le] at p34
        refine T_seq ?_
        refine T_region ?_
        refine TL_q (Qt_move (.bool _) rfl) rfl ?_
        refine TL_nil ?_
        refine X_then ?_
        refine T_cond rfl (fun h36 => ?_) (fun h36 => ?_)
        ·
          have p36 := h36
          try simp only [decide_eq_true_eq, decide_eq_false_iff_not, Bool.not_eq_true', Bool.not_eq_false', Option.isNone_iff_eq_none, ne_eq, Decidable.not_not, Int.not_lt, Int.not_le] at p36
          refine T_seq ?_
          refine T_draw (blk b3 (.cells ra.cells 34 (0, 0)) :: H) [(0, true), (1, true), (2, true), (4, true), (5, true), (6, true), (3, false), (7, false), (8, true)] (by kernel_rfl) (by kernel_rfl) rfl (by kernel_rfl) (Subs.st inferInstance) (fun hns1 => ?_)
          refine DL_q hns1 rfl (Qt_move (.slice _ _ _) rfl) rfl ?_
          refine DL_q hns1 rfl (Qt_fieldAddr 1 rfl rfl) rfl ?_
          refine DL_q hns1 rfl (Qt_load1 rfl) rfl ?_
          refine DL_q hns1 rfl (Qt_fieldAddr 2 rfl rfl) rfl ?_
          refine DL_q hns1 rfl (Qt_load1 rfl) rfl ?_
          refine DL_q hns1 rfl (Qt_move (.slice _ _ _) rfl) rfl ?_
          refine DL_e rfl rfl (Ef_call (without_c (L := L) (by omega) (nm := ra.name)) rfl (fun x40 => ⟨(Subs.st inferInstance), ?_⟩))
          refine DL_e rfl rfl (Ef_call (with_c (L := outV L ra.name) (by have := outV_len L ra.name; omega) (nm := ra.to) (b := fndB L ra.name)) rfl (fun x44 => ⟨(Subs.st inferInstance), ?_⟩))
          refine DL_q hns1 rfl (Qt_assign (.slice _ _ _) rfl) rfl ?_
          refine DL_nil ?_
          refine X_then ?_
          refine T_ret ?_
          refine X_block_ret ?_
          refine X_then_ret ?_
          exact X_ret (⟨⟨x44.a, x44.c, withV (outV L ra.name) ra.to (fndB L ra.name)⟩, [] ++ [zB], rowFp (BS.val zB) ++ [], [⟨x44.a, x44.c, withV (outV L ra.name) ra.to (fndB L ra.name)⟩], rowFp (FL.val ⟨x44.a, x44.c, withV (outV L ra.name) ra.to (fndB L ra.name)⟩) ++ []⟩ : DO) [_] Try.results46 ⟨rfl, trivial⟩ rfl (fun w hw => (done_end (x := zB) (M := ⟨x44.a, x44.c, withV (outV L ra.name) ra.to (fndB L ra.name)⟩) (e := 5) (e' := 81) (H := H) ((Subs.st inferInstance w hw : St w0 (row (.slice (FL.mk x44.a x44.c (withV (outV L ra.name) ra.to (fndB L ra.name))).a (FL.mk x44.a x44.c (withV (outV L ra.name) ra.to (fndB L ra.name))).ls.length (FL.mk x44.a x44.c (withV (outV L ra.name) ra.to (fndB L ra.name))).c) 81 2 ((FL.mk x44.a x44.c (withV (outV L ra.name) ra.to (fndB L ra.name))).ls.flatMap FileV.list) :: H) w).addNilB 5)).addPure ⟨.inl (List.mem_singleton.2 rfl), fun f hf => hf.ren (by omega) (by simpa using h36), fun g hg => by rcases mem_goV (by rw [← withV_eq]; exact hg) with h | h; (subst h; rcases List.mem_cons.1 (fndB_mem L ra.name) with h1 | h1; exact .inr (.inr (.inr h1)); exact .inr (.inl h1)); exact .inr (.inl (List.mem_map.2 ⟨g, (mem_outV h).1, rfl⟩)), by show (withV _ _ _).length ≤ L.length + 1; rw [withV_eq]; have h1 := goV_len ra.to (fndB L ra.name) (outV L ra.name); have h2 := outV_len L ra.name; omega, fun x hx => by obtain rfl : x = zB := (by simpa using hx); exact Nat.zero_le _⟩)
        ·
          have p36 := h36
          try simp only [decide_eq_true_eq, decide_eq_false_iff_not, Bool.not_eq_true', Bool.not_eq_false', Option.isNone_iff_eq_none, ne_eq, Decidable.not_not, Int.not_lt, Int.not_le] at p36
          refine T_skip ?_
          refine X_block ?_
          refine X_then ?_
          refine T_seq ?_
          refine T_region ?_
          refine TL_q (Qt_move (.slice _ _ _) rfl) rfl ?_
          refine TL_q (Qt_assign (.slice _ _ _) rfl) rfl ?_
          refine TL_nil ?_
          refine X_then ?_
          refine T_ret ?_
          first
            | exact X_ret (⟨⟨a, c, L⟩, [], [], [], []⟩ : DO) [_] Try.results46 ⟨rfl, trivial⟩ rfl (fun w hw => ((St.flNil ((Subs.st inferInstance w hw : St w0 H w).eachNil))).addPure ⟨.inr rfl, fun f hf => hf.ren0 (by omega) (by simpa using h36), fun g hg => .inr (.inl (List.mem_map.2 ⟨g, hg, rfl⟩)), Nat.le_succ _, fun x hx => by cases hx⟩)
            | exact X_ret (⟨⟨a, c, L⟩, [], [], [], []⟩ : DO) [_] Try.results46 ⟨rfl, trivial⟩ rfl (fun w hw => ((St.flNil ((Subs.st inferInstance w hw : St w0 H w).eachNil))).addPure ⟨.inr rfl, fun f hf => hf.idle (by omega) (by omega) (by omega) (by omega), fun g hg => .inr (.inl (List.mem_map.2 ⟨g, hg, rfl⟩)), Nat.le_succ _, fun x hx => by cases hx⟩)
      ·
        have p34 := h34
        try simp only [decide_eq_true_eq, decide_eq_false_iff_not, Bool.not_eq_true', Bool.not_eq_false', Option.isNone_iff_eq_none, ne_eq, Decidable.not_not, Int.not_lt, Int.not_le] at p34
        refine T_seq ?_
        refine T_region ?_
        refine TL_q (Qt_eql rfl rfl) rfl ?_
        refine TL_q (Qt_assign (.bool _) rfl) rfl ?_
        refine TL_nil ?_
        refine X_then ?_
        refine T_cond rfl (fun h45 => ?_) (fun h45 => ?_)
        ·
          have p45 := h45
          try simp only [decide_eq_true_eq, decide_eq_false_iff_not, Bool.not_eq_true', Bool.not_eq_false', Option.isNone_iff_eq_none, ne_eq, Decidable.not_not, Int.not_lt, Int.not_le] at p45
          refine T_seq ?_
          refine T_region ?_
          refine TL_q (Qt_move (.slice _ _ _) rfl) rfl ?_
          refine TL_q (Qt_fieldAddr 1 rfl rfl) rfl ?_
          refine TL_q (Qt_load1 rfl) rfl ?_
          refine TL_e rfl (Ef_call (without_c (L := L) (by omega) (nm := ra.name)) rfl (fun x50 => ?_))
          refine TL_q (Qt_assign (.slice _ _ _) rfl) rfl ?_
          refine TL_nil ?_
          refine X_then ?_
          refine T_ret ?_
          refine X_block_ret ?_
          refine X_then_ret ?_
          exact X_ret (⟨⟨x50.a, x50.c, outV L ra.name⟩, [] ++ [zB], rowFp (BS.val zB) ++ [], [⟨x50.a, x50.c, outV L ra.name⟩], rowFp (FL.val ⟨x50.a, x50.c, outV L ra.name⟩) ++ []⟩ : DO) [_] Try.results46 ⟨rfl, trivial⟩ rfl (fun w hw => (done_end (x := zB) (M := ⟨x50.a, x50.c, outV L ra.name⟩) (e := 5) (e' := 81) (H := H) ((Subs.st inferInstance w hw : St w0 (row (.slice (FL.mk x50.a x50.c (outV L ra.name)).a (FL.mk x50.a x50.c (outV L ra.name)).ls.length (FL.mk x50.a x50.c (outV L ra.name)).c) 81 2 ((FL.mk x50.a x50.c (outV L ra.name)).ls.flatMap FileV.list) :: H) w).addNilB 5)).addPure ⟨.inl (List.mem_singleton.2 rfl), fun f hf => hf.rem (by omega), fun g hg => .inr (.inl (List.mem_map.2 ⟨g, (mem_outV hg).1, rfl⟩)), by have := outV_len L ra.name; show (outV L ra.name).length ≤ L.length + 1; omega, fun x hx => by obtain rfl : x = zB := (by simpa using hx); exact Nat.zero_le _⟩)
        ·
          have p45 := h45
          try simp only [decide_eq_true_eq, decide_eq_false_iff_not, Bool.not_eq_true', Bool.not_eq_false', Option.isNone_iff_eq_none, ne_eq, Decidable.not_not, Int.not_lt, Int.not_le] at p45
          refine T_skip ?_
          refine X_block ?_
          refine X_then ?_
          refine T_seq ?_
          refine T_region ?_
          refine TL_q (Qt_move (.slice _ _ _) rfl) rfl ?_
          refine TL_q (Qt_assign (.slice _ _ _) rfl) rfl ?_
          refine TL_nil ?_
          refine X_then ?_
          refine T_ret ?_
          first
            | exact X_ret (⟨⟨a, c, L⟩, [], [], [], []⟩ : DO) [_] Try.results46 ⟨rfl, trivial⟩ rfl (fun w hw => ((St.flNil ((Subs.st inferInstance w hw : St w0 H w).eachNil))).addPure ⟨.inr rfl, fun f hf => hf.ren0 (by omega) (by simpa using h36), fun g hg => .inr (.inl (List.mem_map.2 ⟨g, hg, rfl⟩)), Nat.le_succ _, fun x hx => by cases hx⟩)
            | exact X_ret (⟨⟨a, c, L⟩, [], [], [], []⟩ : DO) [_] Try.results46 ⟨rfl, trivial⟩ rfl (fun w hw => ((St.flNil ((Subs.st inferInstance w hw : St w0 H w).eachNil))).addPure ⟨.inr rfl, fun f hf => hf.idle (by omega) (by omega) (by omega) (by omega), fun g hg => .inr (.inl (List.mem_map.2 ⟨g, hg, rfl⟩)), Nat.le_succ _, fun x hx => by cases hx⟩)
end Go.Proofs.Ytededghplnoajaa
