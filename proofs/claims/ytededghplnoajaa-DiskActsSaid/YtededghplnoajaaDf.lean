/- Walks: a disk that is not there; the example of the laws on disks; the law DiskNil. -/
import Derived.Test.YtededghplnoajaaDe
namespace Go.Proofs.Ytededghplnoajaa
open Go.RowKit Go.Sx
set_option maxRecDepth 100000
set_option linter.unusedSimpArgs false
set_option linter.unusedVariables false
theorem DS.Ok.mono {s : DS} {N M N' M' : Nat} (h : s.Ok N M) (hN : N ≤ N') (hM : M ≤ M') : s.Ok N' M' :=
  ⟨h.good1, h.good2, h.mem1, h.mem2, h.memp, h.zero, fun x hx => Nat.le_trans (h.len x hx) hM, h.short, Nat.le_trans h.n1 hN, Nat.le_trans h.n2 hN, Nat.le_trans h.np hN, h.room0, h.room1, h.fuse1⟩
theorem burnF_le {f : Int} (h : f ≤ 9223372036854775807) : burnF f ≤ 9223372036854775807 := by unfold burnF; split <;> omega
theorem newB_len {es : FM} {a : ActV} {bs : List BS} {M : Nat} (hm : ∀ e ∈ es, e.v ∈ bs) (hz : zB ∈ bs) (hl : ∀ x ∈ bs, x.l.length ≤ M) (ha : a.b.l.length ≤ 1000) : (newB es a).length ≤ M + 1000 := by
  have h1 := hl _ (oldE_mem hm hz a.name)
  unfold newB
  split
  · rw [List.length_append]; omega
  · split
    · omega
    · simp
theorem DoR.ok {s s' : DS} {N M : Nat} {a : ActV} {e : Int} (h : DoR s a s' e) (hok : s.Ok N M) (ha : a.b ∈ s.bs) (hb : a.b.l.length ≤ 1000) : s'.Ok (N + 1) (M + 1000) := by
  rcases h with ⟨-, -, rfl⟩ | ⟨-, -, x, pa, pc, fp, hx, rfl⟩
  · have h1 := hok.mono (Nat.le_add_right N 1) (Nat.le_add_right M 1000)
    exact ⟨h1.good1, h1.good2, h1.mem1, h1.mem2, h1.memp, h1.zero, h1.len, h1.short, h1.n1, h1.n2, h1.np, h1.room0, h1.room1, burnF_le h1.fuse1⟩
  · refine ⟨hok.good1, doE_good hok.good2, fun e he => List.mem_cons_of_mem _ (hok.mem1 e he), doE_vals hok.mem2 hok.zero, fun b hb' => ?_, List.mem_cons_of_mem _ hok.zero, fun y hy => ?_, fun b hb' => ?_, by have := hok.n1; show s.e1.length ≤ _; omega, by have h1 := doE_len (es := s.e2) (a := a) (x := x) (c := s.c2); have h2 := hok.n2; show (doE s.e2 a x s.c2).length ≤ _; omega, by have := hok.np; show (s.pend ++ [a]).length ≤ _; simp; omega, hok.room0, hok.room1, burnF_le hok.fuse1⟩
    · rcases List.mem_append.1 hb' with h1 | h1
      · exact List.mem_cons_of_mem _ (hok.memp b h1)
      · obtain rfl : b = a := by simpa using h1
        exact List.mem_cons_of_mem _ ha
    · rcases List.mem_cons.1 hy with rfl | hy
      · rw [hx]; exact newB_len hok.mem2 hok.zero hok.len hb
      · have := hok.len y hy; omega
    · rcases List.mem_append.1 hb' with h1 | h1
      · exact hok.short b h1
      · obtain rfl : b = a := by simpa using h1
        exact hb
theorem AppR.ok {k : Int} {less : Nat} {s s' : DS} {N M : Nat} {nm : ByteArray} {b : List UInt8} {e : Int} (h : AppR k less s nm b s' e) (hok : s.Ok N M) (hb : b.length ≤ 1000) (hbM : b.length ≤ M) : s'.Ok (N + 1) (M + 1000) := by
  have h1 := hok.mono (Nat.le_add_right N 1) (Nat.le_add_right M 1000)
  rcases h with ⟨-, -, rfl⟩ | ⟨-, -, -, rfl⟩ | ⟨-, -, -, -, rfl⟩ | ⟨-, -, -, cl, fp, hcl, hd⟩
  · exact h1
  · exact h1
  · exact h1
  · exact hd.ok (hok.addB (by rw [hcl]; exact hbM)) (List.mem_cons_self ..) (by show cl.l.length ≤ 1000; rw [hcl]; exact hb)
theorem SyncR.ok {s s' : DS} {N M : Nat} (h : SyncR s s') (hok : s.Ok N M) : s'.Ok N M := by
  rcases h with ⟨-, rfl⟩ | ⟨-, q1, q2, rfl⟩
  · exact ⟨hok.good1, hok.good2, hok.mem1, hok.mem2, hok.memp, hok.zero, hok.len, hok.short, hok.n1, hok.n2, hok.np, hok.room0, hok.room1, burnF_le hok.fuse1⟩
  · exact ⟨hok.good2, hok.good2, hok.mem2, hok.mem2, (fun _ h => by cases h), hok.zero, hok.len, (fun _ h => by cases h), hok.n2, hok.n2, Nat.zero_le _, hok.room0, hok.room1, burnF_le hok.fuse1⟩
def NF : ByteArray := ⟨#[102]⟩
/-- The first thing that is done in the example. -/
theorem wake1 {r1 r2 : Nat} {s' : DS} {e : Int} (h : AppR 1 0 (newS r1 r2 9) NF [1] s' e) : e = 0 ∧ hasE s'.e2 NF = true ∧ (oldE s'.e2 NF).l = [1] ∧ s'.fuse = -1 ∧ s'.down = false := by
  have hn : namedB NF = true := by decide
  have hf : fitsB (newS r1 r2 9).room (newS r1 r2 9).e2 ([1] : List UInt8).length ((0 : Nat) : Int) = true := by
    show fitsB (roomOf 9) [] 1 0 = true
    decide
  rcases h with ⟨h, -⟩ | ⟨-, h, -⟩ | ⟨-, -, h, -⟩ | ⟨-, -, -, cl, fp, hcl, hd⟩
  · cases h
  · rw [hn] at h; cases h
  · exact absurd (hf.symm.trans h) (by decide)
  · rcases hd with ⟨h, -⟩ | ⟨-, he, x, pa, pc, fp', hx, rfl⟩
    · exact absurd h (by show burnD (-1) false ≠ true; decide)
    · have hx' : x.l = [1] := by
        rw [hx]
        show newB [] ⟨1, NF, ⟨#[]⟩, cl⟩ = [1]
        unfold newB
        rw [if_pos rfl]
        show [] ++ cl.l = [1]
        rw [hcl]; rfl
      have he2 : getE (doE (newS r1 r2 9).e2 ⟨1, NF, ⟨#[]⟩, cl⟩ x (newS r1 r2 9).c2) NF = some x := by
        unfold doE
        rw [if_pos (.inl rfl)]
        exact getE_put_eq _ _ _ _
      refine ⟨he, ?_, ?_, rfl, rfl⟩
      · unfold hasE; rw [he2]; rfl
      · unfold oldE; rw [he2]; exact hx'
theorem AppR.synced {k : Int} {less : Nat} {s s' : DS} {nm : ByteArray} {b : List UInt8} {e : Int} (h : AppR k less s nm b s' e) : s'.e1 = s.e1 := by
  rcases h with ⟨-, -, rfl⟩ | ⟨-, -, -, rfl⟩ | ⟨-, -, -, -, rfl⟩ | ⟨-, -, -, cl, fp, hcl, hd⟩
  · rfl
  · rfl
  · rfl
  · rcases hd with ⟨-, -, rfl⟩ | ⟨-, -, x, pa, pc, fp', hx, rfl⟩ <;> rfl
theorem wake2 {s s' : DS} (h : SyncR s s') (hf : s.fuse = -1) (hd : s.down = false) : s'.e1 = s.e2 := by
  rcases h with ⟨h, -⟩ | ⟨-, q1, q2, rfl⟩
  · rw [hf, hd] at h; cases h
  · rfl
theorem wake3 {s s' : DS} {N M : Nat} (h : CrashR s N M 0 (-1) s') : s'.e2 = s.e1 ∧ s'.pend = [] := by
  obtain ⟨e1, c1, q, fp, bs, hc, rfl⟩ := h
  exact ⟨(hc.same rfl rfl).1, rfl⟩

set_option maxHeartbeats 1000000 in
theorem renameNil_c {w0 : World} {H : List SA} {nm to : ByteArray} :
    CT Try.prog w0 (H) 33 [.pointer none, .string nm, .string to] (α := Unit) (fun _ => .int .i64 16) (fun _ => H) := by
  refine CT_intro Try.func33 rfl Try.ntmps33 rfl ?_
  refine T_seq ?_
  refine T_region ?_
  refine TL_q (Qt_assign (.int .i64 _) rfl) rfl ?_
  refine TL_nil ?_
  refine X_then ?_
  refine T_seq ?_
  refine T_block ?_
  refine T_seq ?_
  refine T_region ?_
  refine TL_q (Qt_move (.pointer _) rfl) rfl ?_
  refine TL_q (Qt_ptr_nil rfl rfl Try.underlying28) rfl ?_
  refine TL_q (Qt_assign (.bool _) rfl) rfl ?_
  refine TL_nil ?_
  refine X_then ?_
  refine T_cond rfl (fun h7 => ?_) (fun h7 => ?_)
  ·
    have p7 := h7
    try simp only [decide_eq_true_eq, decide_eq_false_iff_not, Bool.not_eq_true', Bool.not_eq_false', Option.isNone_iff_eq_none, ne_eq, Decidable.not_not, Int.not_lt, Int.not_le] at p7
    refine T_seq ?_
    refine T_region ?_
    refine TL_q (Qt_assign (.int .i64 _) rfl) rfl ?_
    refine TL_nil ?_
    refine X_then ?_
    refine T_ret ?_
    refine X_block_ret ?_
    refine X_then_ret ?_
    exact X_ret () [_] Try.results33 ⟨rfl, trivial⟩ rfl (Subs.st inferInstance)
  ·
    have p7 := h7
    try simp only [decide_eq_true_eq, decide_eq_false_iff_not, Bool.not_eq_true', Bool.not_eq_false', Option.isNone_iff_eq_none, ne_eq, Decidable.not_not, Int.not_lt, Int.not_le] at p7
    cases h7
set_option maxHeartbeats 1000000 in
theorem deleteNil_c {w0 : World} {H : List SA} {nm : ByteArray} :
    CT Try.prog w0 (H) 34 [.pointer none, .string nm] (α := Unit) (fun _ => .int .i64 16) (fun _ => H) := by
  refine CT_intro Try.func34 rfl Try.ntmps34 rfl ?_
  refine T_seq ?_
  refine T_region ?_
  refine TL_q (Qt_assign (.int .i64 _) rfl) rfl ?_
  refine TL_nil ?_
  refine X_then ?_
  refine T_seq ?_
  refine T_block ?_
  refine T_seq ?_
  refine T_region ?_
  refine TL_q (Qt_move (.pointer _) rfl) rfl ?_
  refine TL_q (Qt_ptr_nil rfl rfl Try.underlying28) rfl ?_
  refine TL_q (Qt_assign (.bool _) rfl) rfl ?_
  refine TL_nil ?_
  refine X_then ?_
  refine T_cond rfl (fun h5 => ?_) (fun h5 => ?_)
  ·
    have p5 := h5
    try simp only [decide_eq_true_eq, decide_eq_false_iff_not, Bool.not_eq_true', Bool.not_eq_false', Option.isNone_iff_eq_none, ne_eq, Decidable.not_not, Int.not_lt, Int.not_le] at p5
    refine T_seq ?_
    refine T_region ?_
    refine TL_q (Qt_assign (.int .i64 _) rfl) rfl ?_
    refine TL_nil ?_
    refine X_then ?_
    refine T_ret ?_
    refine X_block_ret ?_
    refine X_then_ret ?_
    exact X_ret () [_] Try.results34 ⟨rfl, trivial⟩ rfl (Subs.st inferInstance)
  ·
    have p5 := h5
    try simp only [decide_eq_true_eq, decide_eq_false_iff_not, Bool.not_eq_true', Bool.not_eq_false', Option.isNone_iff_eq_none, ne_eq, Decidable.not_not, Int.not_lt, Int.not_le] at p5
    cases h5
set_option maxHeartbeats 1000000 in
theorem copyNil_c {w0 : World} {H : List SA}  :
    CT Try.prog w0 (H) 19 [.pointer none] (α := Unit) (fun _ => .pointer none) (fun _ => H) := by
  refine CT_intro Try.func19 rfl Try.ntmps19 rfl ?_
  refine T_seq ?_
  refine T_region ?_
  refine TL_q (Qt_assign (.pointer _) rfl) rfl ?_
  refine TL_nil ?_
  refine X_then ?_
  refine T_seq ?_
  refine T_seq ?_
  refine T_region ?_
  refine TL_q (Qt_move (.pointer _) rfl) rfl ?_
  refine TL_q (Qt_ptr_nil rfl rfl Try.underlying28) rfl ?_
  refine TL_nil ?_
  refine X_then ?_
  refine T_cond rfl (fun h4 => ?_) (fun h4 => ?_)
  ·
    have p4 := h4
    try simp only [decide_eq_true_eq, decide_eq_false_iff_not, Bool.not_eq_true', Bool.not_eq_false', Option.isNone_iff_eq_none, ne_eq, Decidable.not_not, Int.not_lt, Int.not_le] at p4
    refine T_seq ?_
    refine T_region ?_
    refine TL_q (Qt_assign (.pointer _) rfl) rfl ?_
    refine TL_nil ?_
    refine X_then ?_
    refine T_ret ?_
    refine X_then_ret ?_
    exact X_ret () [_] Try.results19 ⟨rfl, trivial⟩ rfl (Subs.st inferInstance)
  ·
    have p4 := h4
    try simp only [decide_eq_true_eq, decide_eq_false_iff_not, Bool.not_eq_true', Bool.not_eq_false', Option.isNone_iff_eq_none, ne_eq, Decidable.not_not, Int.not_lt, Int.not_le] at p4
    cases h4
set_option maxHeartbeats 1000000 in
theorem fuseNil_c {w0 : World} {H : List SA} {n : Int} :
    CT Try.prog w0 (H) 35 [.pointer none, .int .i64 n] (α := Unit) (fun _ => .tuple #[]) (fun _ => H) := by
  refine CT_intro Try.func35 rfl Try.ntmps35 rfl ?_
  refine T_seq ?_
  refine T_region ?_
  refine TL_q (Qt_move (.pointer _) rfl) rfl ?_
  refine TL_q (Qt_ptr_not_nil rfl rfl Try.underlying28) rfl ?_
  refine TL_q (Qt_move (.bool _) rfl) rfl ?_
  refine TL_split 6 rfl (fun h6 => ?_) (fun h6 => ?_)
  ·
    have p6 := h6
    try simp only [decide_eq_true_eq, decide_eq_false_iff_not, Bool.not_eq_true', Bool.not_eq_false', Option.isNone_iff_eq_none, ne_eq, Decidable.not_not, Int.not_lt, Int.not_le] at p6
    cases h6
  ·
    have p6 := h6
    try simp only [decide_eq_true_eq, decide_eq_false_iff_not, Bool.not_eq_true', Bool.not_eq_false', Option.isNone_iff_eq_none, ne_eq, Decidable.not_not, Int.not_lt, Int.not_le] at p6
    refine TL_pass rfl rfl h6 rfl ?_
    refine TL_pass rfl rfl h6 rfl ?_
    refine TL_pass rfl rfl h6 rfl ?_
    refine TL_pass rfl rfl h6 rfl ?_
    refine TL_pass rfl rfl h6 rfl ?_
    refine TL_q (Qt_pick_f (.bool _) rfl h6 rfl) rfl ?_
    refine TL_nil ?_
    refine X_then ?_
    refine T_cond_false rfl rfl ?_
    refine T_skip ?_
    exact X_ret () [] Try.results35 trivial rfl (Subs.st inferInstance)
set_option maxHeartbeats 1000000 in
theorem namesNil_c {w0 : World} {H : List SA}  :
    CT Try.prog w0 (H) 26 [.pointer none] (α := Unit) (fun _ => .slice none 0 0) (fun _ => H) := by
  refine CT_intro Try.func26 rfl Try.ntmps26 rfl ?_
  refine T_seq ?_
  refine T_region ?_
  refine TL_q (Qt_assign (.slice _ _ _) rfl) rfl ?_
  refine TL_nil ?_
  refine X_then ?_
  refine T_seq ?_
  refine T_seq ?_
  refine T_region ?_
  refine TL_q (Qt_move (.pointer _) rfl) rfl ?_
  refine TL_q (Qt_ptr_nil rfl rfl Try.underlying28) rfl ?_
  refine TL_nil ?_
  refine X_then ?_
  refine T_cond rfl (fun h4 => ?_) (fun h4 => ?_)
  ·
    have p4 := h4
    try simp only [decide_eq_true_eq, decide_eq_false_iff_not, Bool.not_eq_true', Bool.not_eq_false', Option.isNone_iff_eq_none, ne_eq, Decidable.not_not, Int.not_lt, Int.not_le] at p4
    refine T_seq ?_
    refine T_region ?_
    refine TL_q (Qt_assign (.slice _ _ _) rfl) rfl ?_
    refine TL_nil ?_
    refine X_then ?_
    refine T_ret ?_
    refine X_then_ret ?_
    exact X_ret () [_] Try.results26 ⟨rfl, trivial⟩ rfl (Subs.st inferInstance)
  ·
    have p4 := h4
    try simp only [decide_eq_true_eq, decide_eq_false_iff_not, Bool.not_eq_true', Bool.not_eq_false', Option.isNone_iff_eq_none, ne_eq, Decidable.not_not, Int.not_lt, Int.not_le] at p4
    cases h4
def eN (k : Int) : Int := if 0 ≤ k ∧ k ≤ 3 then 16 else 0
set_option maxHeartbeats 1000000 in
theorem doNil_c {w0 : World} {H : List SA} {a : RActV} :
    CT Try.prog w0 (H) 14 [.pointer none, .agg a.cells] (α := Unit) (fun _ => .tuple #[.pointer none, .int .i64 (eN a.kind)]) (fun _ => H) := by
  refine CT_intro Try.func14 rfl Try.ntmps14 rfl ?_
  refine T_seq ?_
  refine T_region ?_
  refine TL_e rfl (Ef_boxN rfl (fun b3 => ?_))
  refine TL_q (Qt_assign (.pointer _) rfl) rfl ?_
  refine TL_q (Qt_assign (.int .i64 _) rfl) rfl ?_
  refine TL_nil ?_
  refine X_then ?_
  refine T_seq ?_
  refine T_seq ?_
  refine T_region ?_
  refine TL_q (Qt_fieldAddr 0 rfl rfl) rfl ?_
  refine TL_q (Qt_load1 rfl) rfl ?_
  refine TL_nil ?_
  refine X_then ?_
  refine T_block ?_
  refine T_seq ?_
  refine T_region ?_
  refine TL_q (Qt_eql rfl rfl) rfl ?_
  refine TL_q (Qt_assign (.bool _) rfl) rfl ?_
  refine TL_nil ?_
  refine X_then ?_
  refine T_cond rfl (fun h8 => ?_) (fun h8 => ?_)
  ·
    have p8 := h8
    try simp only [decide_eq_true_eq, decide_eq_false_iff_not, Bool.not_eq_true', Bool.not_eq_false', Option.isNone_iff_eq_none, ne_eq, Decidable.not_not, Int.not_lt, Int.not_le] at p8
    refine T_seq ?_
    refine T_region ?_
    refine TL_q (Qt_move (.pointer _) rfl) rfl ?_
    refine TL_q (Qt_move (.pointer _) rfl) rfl ?_
    refine TL_q (Qt_fieldAddr 1 rfl rfl) rfl ?_
    refine TL_q (Qt_load1 rfl) rfl ?_
    refine TL_q (Qt_fieldAddr 3 rfl rfl) rfl ?_
    refine TL_q (Qt_load1 rfl) rfl ?_
    refine TL_e rfl (Ef_call (appendNil_c) rfl (fun x16 => ?_))
    refine TL_q (Qt_assign (.pointer _) rfl) rfl ?_
    refine TL_q (Qt_assign (.int .i64 _) rfl) rfl ?_
    refine TL_nil ?_
    refine X_then ?_
    refine T_ret ?_
    refine X_block_ret ?_
    refine X_then_ret ?_
    have e : eN a.kind = 16 := by unfold eN; rw [if_pos (by omega)]
    rw [e]
    exact X_ret () [_, _] Try.results14 ⟨rfl, rfl, trivial⟩ rfl (Subs.st inferInstance)
  ·
    have p8 := h8
    try simp only [decide_eq_true_eq, decide_eq_false_iff_not, Bool.not_eq_true', Bool.not_eq_false', Option.isNone_iff_eq_none, ne_eq, Decidable.not_not, Int.not_lt, Int.not_le] at p8
    refine T_seq ?_
    refine T_region ?_
    refine TL_q (Qt_eql rfl rfl) rfl ?_
    refine TL_q (Qt_assign (.bool _) rfl) rfl ?_
    refine TL_nil ?_
    refine X_then ?_
    refine T_cond rfl (fun h17 => ?_) (fun h17 => ?_)
    ·
      have p17 := h17
      try simp only [decide_eq_true_eq, decide_eq_false_iff_not, Bool.not_eq_true', Bool.not_eq_false', Option.isNone_iff_eq_none, ne_eq, Decidable.not_not, Int.not_lt, Int.not_le] at p17
      refine T_seq ?_
      refine T_region ?_
      refine TL_q (Qt_move (.pointer _) rfl) rfl ?_
      refine TL_q (Qt_move (.pointer _) rfl) rfl ?_
      refine TL_q (Qt_fieldAddr 1 rfl rfl) rfl ?_
      refine TL_q (Qt_load1 rfl) rfl ?_
      refine TL_q (Qt_fieldAddr 3 rfl rfl) rfl ?_
      refine TL_q (Qt_load1 rfl) rfl ?_
      refine TL_e rfl (Ef_call (writeNil_c) rfl (fun x25 => ?_))
      refine TL_q (Qt_assign (.pointer _) rfl) rfl ?_
      refine TL_q (Qt_assign (.int .i64 _) rfl) rfl ?_
      refine TL_nil ?_
      refine X_then ?_
      refine T_ret ?_
      refine X_block_ret ?_
      refine X_then_ret ?_
      have e : eN a.kind = 16 := by unfold eN; rw [if_pos (by omega)]
      rw [e]
      exact X_ret () [_, _] Try.results14 ⟨rfl, rfl, trivial⟩ rfl (Subs.st inferInstance)
    ·
      have p17 := h17
      try simp only [decide_eq_true_eq, decide_eq_false_iff_not, Bool.not_eq_true', Bool.not_eq_false', Option.isNone_iff_eq_none, ne_eq, Decidable.not_not, Int.not_lt, Int.not_le] at p17
      refine T_seq ?_
      refine T_region ?_
      refine TL_q (Qt_eql rfl rfl) rfl ?_
      refine TL_q (Qt_assign (.bool _) rfl) rfl ?_
      refine TL_nil ?_
      refine X_then ?_
      refine T_cond rfl (fun h26 => ?_) (fun h26 => ?_)
      ·
        have p26 := h26
        try simp only [decide_eq_true_eq, decide_eq_false_iff_not, Bool.not_eq_true', Bool.not_eq_false', Option.isNone_iff_eq_none, ne_eq, Decidable.not_not, Int.not_lt, Int.not_le] at p26
        refine T_seq ?_
        refine T_region ?_
        refine TL_q (Qt_move (.pointer _) rfl) rfl ?_
        refine TL_q (Qt_move (.pointer _) rfl) rfl ?_
        refine TL_q (Qt_fieldAddr 1 rfl rfl) rfl ?_
        refine TL_q (Qt_load1 rfl) rfl ?_
        refine TL_q (Qt_fieldAddr 2 rfl rfl) rfl ?_
        refine TL_q (Qt_load1 rfl) rfl ?_
        refine TL_e rfl (Ef_call (renameNil_c) rfl (fun x34 => ?_))
        refine TL_q (Qt_assign (.pointer _) rfl) rfl ?_
        refine TL_q (Qt_assign (.int .i64 _) rfl) rfl ?_
        refine TL_nil ?_
        refine X_then ?_
        refine T_ret ?_
        refine X_block_ret ?_
        refine X_then_ret ?_
        have e : eN a.kind = 16 := by unfold eN; rw [if_pos (by omega)]
        rw [e]
        exact X_ret () [_, _] Try.results14 ⟨rfl, rfl, trivial⟩ rfl (Subs.st inferInstance)
      ·
        have p26 := h26
        try simp only [decide_eq_true_eq, decide_eq_false_iff_not, Bool.not_eq_true', Bool.not_eq_false', Option.isNone_iff_eq_none, ne_eq, Decidable.not_not, Int.not_lt, Int.not_le] at p26
        refine T_seq ?_
        refine T_region ?_
        refine TL_q (Qt_eql rfl rfl) rfl ?_
        refine TL_q (Qt_assign (.bool _) rfl) rfl ?_
        refine TL_nil ?_
        refine X_then ?_
        refine T_cond rfl (fun h35 => ?_) (fun h35 => ?_)
        ·
          have p35 := h35
          try simp only [decide_eq_true_eq, decide_eq_false_iff_not, Bool.not_eq_true', Bool.not_eq_false', Option.isNone_iff_eq_none, ne_eq, Decidable.not_not, Int.not_lt, Int.not_le] at p35
          refine T_seq ?_
          refine T_region ?_
          refine TL_q (Qt_move (.pointer _) rfl) rfl ?_
          refine TL_q (Qt_move (.pointer _) rfl) rfl ?_
          refine TL_q (Qt_fieldAddr 1 rfl rfl) rfl ?_
          refine TL_q (Qt_load1 rfl) rfl ?_
          refine TL_e rfl (Ef_call (deleteNil_c) rfl (fun x41 => ?_))
          refine TL_q (Qt_assign (.pointer _) rfl) rfl ?_
          refine TL_q (Qt_assign (.int .i64 _) rfl) rfl ?_
          refine TL_nil ?_
          refine X_then ?_
          refine T_ret ?_
          refine X_block_ret ?_
          refine X_then_ret ?_
          have e : eN a.kind = 16 := by unfold eN; rw [if_pos (by omega)]
          rw [e]
          exact X_ret () [_, _] Try.results14 ⟨rfl, rfl, trivial⟩ rfl (Subs.st inferInstance)
        ·
          have p35 := h35
          try simp only [decide_eq_true_eq, decide_eq_false_iff_not, Bool.not_eq_true', Bool.not_eq_false', Option.isNone_iff_eq_none, ne_eq, Decidable.not_not, Int.not_lt, Int.not_le] at p35
          refine T_seq ?_
          refine T_region ?_
          refine TL_q (Qt_eql rfl rfl) rfl ?_
          refine TL_q (Qt_assign (.bool _) rfl) rfl ?_
          refine TL_nil ?_
          refine X_then ?_
          refine T_cond rfl (fun h42 => ?_) (fun h42 => ?_)
          ·
            have p42 := h42
            try simp only [decide_eq_true_eq, decide_eq_false_iff_not, Bool.not_eq_true', Bool.not_eq_false', Option.isNone_iff_eq_none, ne_eq, Decidable.not_not, Int.not_lt, Int.not_le] at p42
            refine T_region ?_
            refine TL_q (Qt_move (.pointer _) rfl) rfl ?_
            refine TL_e rfl (Ef_call (syncNil_c) rfl (fun x45 => ?_))
            refine TL_nil ?_
            refine X_block ?_
            refine X_then ?_
            refine T_seq ?_
            refine T_region ?_
            refine TL_q (Qt_move (.pointer _) rfl) rfl ?_
            refine TL_q (Qt_assign (.pointer _) rfl) rfl ?_
            refine TL_q (Qt_assign (.int .i64 _) rfl) rfl ?_
            refine TL_nil ?_
            refine X_then ?_
            refine T_ret ?_
            have e : eN a.kind = 0 := by unfold eN; rw [if_neg (by omega)]
            rw [e]
            exact X_ret () [_, _] Try.results14 ⟨rfl, rfl, trivial⟩ rfl (Subs.st inferInstance)
          ·
            have p42 := h42
            try simp only [decide_eq_true_eq, decide_eq_false_iff_not, Bool.not_eq_true', Bool.not_eq_false', Option.isNone_iff_eq_none, ne_eq, Decidable.not_not, Int.not_lt, Int.not_le] at p42
            refine T_seq ?_
            refine T_region ?_
            refine TL_q (Qt_eql rfl rfl) rfl ?_
            refine TL_q (Qt_assign (.bool _) rfl) rfl ?_
            refine TL_nil ?_
            refine X_then ?_
            refine T_cond rfl (fun h46 => ?_) (fun h46 => ?_)
            ·
              have p46 := h46
              try simp only [decide_eq_true_eq, decide_eq_false_iff_not, Bool.not_eq_true', Bool.not_eq_false', Option.isNone_iff_eq_none, ne_eq, Decidable.not_not, Int.not_lt, Int.not_le] at p46
              refine T_region ?_
              refine TL_q (Qt_move (.pointer _) rfl) rfl ?_
              refine TL_q (Qt_fieldAddr 4 rfl rfl) rfl ?_
              refine TL_q (Qt_loadN rfl rfl) rfl ?_
              refine TL_e rfl (Ef_call (crashNil_c) rfl (fun x51 => ?_))
              refine TL_nil ?_
              refine X_block ?_
              refine X_then ?_
              refine T_seq ?_
              refine T_region ?_
              refine TL_q (Qt_move (.pointer _) rfl) rfl ?_
              refine TL_q (Qt_assign (.pointer _) rfl) rfl ?_
              refine TL_q (Qt_assign (.int .i64 _) rfl) rfl ?_
              refine TL_nil ?_
              refine X_then ?_
              refine T_ret ?_
              have e : eN a.kind = 0 := by unfold eN; rw [if_neg (by omega)]
              rw [e]
              exact X_ret () [_, _] Try.results14 ⟨rfl, rfl, trivial⟩ rfl (Subs.st inferInstance)
            ·
              have p46 := h46
              try simp only [decide_eq_true_eq, decide_eq_false_iff_not, Bool.not_eq_true', Bool.not_eq_false', Option.isNone_iff_eq_none, ne_eq, Decidable.not_not, Int.not_lt, Int.not_le] at p46
              refine T_seq ?_
              refine T_region ?_
              refine TL_q (Qt_eql rfl rfl) rfl ?_
              refine TL_q (Qt_assign (.bool _) rfl) rfl ?_
              refine TL_nil ?_
              refine X_then ?_
              refine T_cond rfl (fun h52 => ?_) (fun h52 => ?_)
              ·
                have p52 := h52
                try simp only [decide_eq_true_eq, decide_eq_false_iff_not, Bool.not_eq_true', Bool.not_eq_false', Option.isNone_iff_eq_none, ne_eq, Decidable.not_not, Int.not_lt, Int.not_le] at p52
                refine T_seq ?_
                refine T_region ?_
                refine TL_q (Qt_move (.pointer _) rfl) rfl ?_
                refine TL_e rfl (Ef_call (copyNil_c) rfl (fun x55 => ?_))
                refine TL_q (Qt_assign (.pointer _) rfl) rfl ?_
                refine TL_q (Qt_assign (.int .i64 _) rfl) rfl ?_
                refine TL_nil ?_
                refine X_then ?_
                refine T_ret ?_
                refine X_block_ret ?_
                refine X_then_ret ?_
                have e : eN a.kind = 0 := by unfold eN; rw [if_neg (by omega)]
                rw [e]
                exact X_ret () [_, _] Try.results14 ⟨rfl, rfl, trivial⟩ rfl (Subs.st inferInstance)
              ·
                have p52 := h52
                try simp only [decide_eq_true_eq, decide_eq_false_iff_not, Bool.not_eq_true', Bool.not_eq_false', Option.isNone_iff_eq_none, ne_eq, Decidable.not_not, Int.not_lt, Int.not_le] at p52
                refine T_seq ?_
                refine T_region ?_
                refine TL_q (Qt_eql rfl rfl) rfl ?_
                refine TL_q (Qt_assign (.bool _) rfl) rfl ?_
                refine TL_nil ?_
                refine X_then ?_
                refine T_cond rfl (fun h56 => ?_) (fun h56 => ?_)
                ·
                  have p56 := h56
                  try simp only [decide_eq_true_eq, decide_eq_false_iff_not, Bool.not_eq_true', Bool.not_eq_false', Option.isNone_iff_eq_none, ne_eq, Decidable.not_not, Int.not_lt, Int.not_le] at p56
                  refine T_region ?_
                  refine TL_q (Qt_move (.pointer _) rfl) rfl ?_
                  refine TL_q (Qt_fieldAddr 7 rfl rfl) rfl ?_
                  refine TL_q (Qt_load1 rfl) rfl ?_
                  refine TL_e rfl (Ef_call (fuseNil_c) rfl (fun x61 => ?_))
                  refine TL_nil ?_
                  refine X_block ?_
                  refine X_then ?_
                  refine T_seq ?_
                  refine T_region ?_
                  refine TL_q (Qt_move (.pointer _) rfl) rfl ?_
                  refine TL_q (Qt_assign (.pointer _) rfl) rfl ?_
                  refine TL_q (Qt_assign (.int .i64 _) rfl) rfl ?_
                  refine TL_nil ?_
                  refine X_then ?_
                  refine T_ret ?_
                  have e : eN a.kind = 0 := by unfold eN; rw [if_neg (by omega)]
                  rw [e]
                  exact X_ret () [_, _] Try.results14 ⟨rfl, rfl, trivial⟩ rfl (Subs.st inferInstance)
                ·
                  have p56 := h56
                  try simp only [decide_eq_true_eq, decide_eq_false_iff_not, Bool.not_eq_true', Bool.not_eq_false', Option.isNone_iff_eq_none, ne_eq, Decidable.not_not, Int.not_lt, Int.not_le] at p56
                  refine T_skip ?_
                  refine X_block ?_
                  refine X_then ?_
                  refine T_seq ?_
                  refine T_region ?_
                  refine TL_q (Qt_move (.pointer _) rfl) rfl ?_
                  refine TL_q (Qt_assign (.pointer _) rfl) rfl ?_
                  refine TL_q (Qt_assign (.int .i64 _) rfl) rfl ?_
                  refine TL_nil ?_
                  refine X_then ?_
                  refine T_ret ?_
                  have e : eN a.kind = 0 := by unfold eN; rw [if_neg (by omega)]
                  rw [e]
                  exact X_ret () [_, _] Try.results14 ⟨rfl, rfl, trivial⟩ rfl (Subs.st inferInstance)
set_option maxHeartbeats 1000000 in
theorem wakes10_c {w0 : World} {H : List SA}  :
    CT Try.prog w0 (H) 9 [] (α := Unit) (fun _ => .bool true) (fun _ => H) := by
  refine CT_intro Try.func9 rfl Try.ntmps9 rfl ?_
  refine T_seq ?_
  refine T_region ?_
  refine TL_q (Qt_assign (.bool _) rfl) rfl ?_
  refine TL_nil ?_
  refine X_then ?_
  refine T_seq ?_
  refine T_region ?_
  refine TL_e rfl (Ef_call (dnew_c (n := 9)) rfl (fun x5 => ?_))
  refine TL_q (Qt_assign (.pointer _) rfl) rfl ?_
  refine TL_nil ?_
  refine X_then ?_
  refine T_seq ?_
  refine T_region ?_
  refine TL_q (Qt_move (.pointer _) rfl) rfl ?_
  refine TL_e rfl (Ef_sliceN (m := ([1] : List UInt8).length) [.int .u8 1] (bytesV [1]) rfl rfl rfl rfl (by simp [Value.cells]) rfl rfl (fun a7 c7 => ?_))
  have hok0 : (newS x5.2.1 x5.2.2 9).Ok 10 1000 := (newS_ok _ _ _).mono (by decide) (by decide)
  refine TL_conv (fun w hw => (Subs.st inferInstance w hw : St w0 (DS.H x5.1 (newS x5.2.1 x5.2.2 9) (row (.slice a7 ([1] : List UInt8).length c7) 5 1 (bytesV [1]) :: H)) w)) ?_
  refine TL_e rfl (Ef_call (append_c (p := x5.1) (s := newS x5.2.1 x5.2.2 9) hok0 (by decide) (by decide) (nm := NF) (b := ⟨a7, c7, [1]⟩) (by simp) (by simp)) rfl (fun x8 => ?_))
  refine TL_pure (fun h8 => ?_)
  have hok1 := h8.ok hok0 (by simp) (by simp)
  obtain ⟨w1, w2, w3, w4, w5⟩ := wake1 h8
  rw [w1]
  refine TL_q (Qt_assign (.int .i64 _) rfl) rfl ?_
  refine TL_nil ?_
  refine X_then ?_
  refine T_seq ?_
  refine T_region ?_
  refine TL_q (Qt_move (.pointer _) rfl) rfl ?_
  refine TL_e rfl (Ef_call (sync_c (p := x5.1) (s := x8.1) hok1 (by decide) (by decide)) rfl (fun x10 => ?_))
  refine TL_pure (fun h10 => ?_)
  have hok2 := h10.ok hok1
  have w6 := wake2 h10 w4 w5
  refine TL_nil ?_
  refine X_then ?_
  refine T_seq ?_
  refine T_region ?_
  refine TL_q (Qt_move (.pointer _) rfl) rfl ?_
  refine TL_e rfl (Ef_sliceN (m := ([2] : List UInt8).length) [.int .u8 2] (bytesV [2]) rfl rfl rfl rfl (by simp [Value.cells]) rfl rfl (fun a12 c12 => ?_))
  refine TL_conv (fun w hw => (Subs.st inferInstance w hw : St w0 (DS.H x5.1 x10 (row (.slice a12 ([2] : List UInt8).length c12) 5 1 (bytesV [2]) :: H)) w)) ?_
  refine TL_e rfl (Ef_call (append_c (p := x5.1) (s := x10) hok2 (by decide) (by decide) (nm := NF) (b := ⟨a12, c12, [2]⟩) (by simp) (by simp)) rfl (fun x13 => ?_))
  refine TL_pure (fun h13 => ?_)
  have hok3 := h13.ok hok2 (by simp) (by simp)
  have w7 := h13.synced
  refine TL_nil ?_
  refine X_then ?_
  refine T_seq ?_
  refine T_region ?_
  refine TL_q (Qt_move (.pointer _) rfl) rfl ?_
  refine TL_q (Qt_build [(1, (.int .i64 _))] rfl (by kernel_rfl)) rfl ?_
  refine TL_e rfl (Ef_call (crash_c (p := x5.1) (s := x13.1) hok3 (by decide) (by decide) (kp := 0) (torn := -1) (cut := 0) (by decide)) rfl (fun x16 => ?_))
  refine TL_pure (fun h16 => ?_)
  have hok4 := h16.ok hok3
  obtain ⟨w8, w9⟩ := wake3 h16
  have w10 : x16.e2 = x8.1.e2 := by rw [w8, w7, w6]
  refine TL_nil ?_
  refine X_then ?_
  refine T_seq ?_
  refine T_region ?_
  refine TL_q (Qt_move (.pointer _) rfl) rfl ?_
  refine TL_e rfl (Ef_call (dread_c (p := x5.1) (s := x16) hok4 (by have := hok3.np; omega) (by have := hok3.np; omega) (nm := NF)) rfl (fun x19 => ?_))
  rw [w10, w3, w2]
  refine TL_q (Qt_move (.tuple _) rfl) rfl ?_
  refine TL_q (Qt_extract rfl) rfl ?_
  refine TL_q (Qt_extract rfl) rfl ?_
  refine TL_q (Qt_assign (.slice _ _ _) rfl) rfl ?_
  refine TL_q (Qt_assign (.int .i64 _) rfl) rfl ?_
  refine TL_nil ?_
  refine X_then ?_
  refine T_seq ?_
  refine T_region ?_
  refine TL_q (Qt_move (.int .i64 _) rfl) rfl ?_
  refine TL_q (Qt_eql rfl rfl) rfl ?_
  refine TL_q (Qt_move (.bool _) rfl) rfl ?_
  refine TL_split 24 rfl (fun h24 => ?_) (fun h24 => ?_)
  ·
    have p24 := h24
    try simp only [decide_eq_true_eq, decide_eq_false_iff_not, Bool.not_eq_true', Bool.not_eq_false', Option.isNone_iff_eq_none, ne_eq, Decidable.not_not, Int.not_lt, Int.not_le] at p24
    refine TL_take rfl rfl h24 ?_
    refine TL_q (Qt_move (.int .i64 _) rfl) rfl ?_
    refine TL_take rfl rfl h24 ?_
    refine TL_q (Qt_eql rfl rfl) rfl ?_
    refine TL_q (Qt_pick_t (.bool _) rfl h24 rfl) rfl ?_
    refine TL_q (Qt_move (.bool _) rfl) rfl ?_
    refine TL_split 28 rfl (fun h28 => ?_) (fun h28 => ?_)
    ·
      have p28 := h28
      try simp only [decide_eq_true_eq, decide_eq_false_iff_not, Bool.not_eq_true', Bool.not_eq_false', Option.isNone_iff_eq_none, ne_eq, Decidable.not_not, Int.not_lt, Int.not_le] at p28
      refine TL_take rfl rfl h28 ?_
      refine TL_q (Qt_move (.slice _ _ _) rfl) rfl ?_
      refine TL_take rfl rfl h28 ?_
      refine TL_e rfl (Ef_sliceN (m := ([1] : List UInt8).length) [.int .u8 1] (bytesV [1]) rfl rfl rfl rfl (by simp [Value.cells]) rfl rfl (fun a30 c30 => ?_))
      refine TL_take rfl rfl h28 ?_
      refine TL_e rfl (Ef_call (same_c (by simp)) rfl (fun x31 => ?_))
      refine TL_q (Qt_pick_t (.bool _) rfl h28 rfl) rfl ?_
      refine TL_q (Qt_move (.bool _) rfl) rfl ?_
      refine TL_split 33 rfl (fun h33 => ?_) (fun h33 => ?_)
      ·
        have p33 := h33
        try simp only [decide_eq_true_eq, decide_eq_false_iff_not, Bool.not_eq_true', Bool.not_eq_false', Option.isNone_iff_eq_none, ne_eq, Decidable.not_not, Int.not_lt, Int.not_le] at p33
        refine TL_take rfl rfl h33 ?_
        refine TL_q (Qt_move (.pointer _) rfl) rfl ?_
        refine TL_conv (fun w hw => (Subs.st inferInstance w hw : St w0 (DS.H x5.1 x16 H) w)) ?_
        refine TL_take rfl rfl h33 ?_
        refine TL_e rfl (Ef_call (pending_c (p := x5.1) (s := x16)) rfl (fun x35 => ?_))
        rw [w9]
        refine TL_take rfl rfl h33 ?_
        refine TL_q (Qt_eql rfl rfl) rfl ?_
        refine TL_q (Qt_pick_t (.bool _) rfl h33 rfl) rfl ?_
        refine TL_q (Qt_assign (.bool _) rfl) rfl ?_
        refine TL_nil ?_
        refine X_then ?_
        refine T_ret ?_
        exact X_ret () [.bool true] Try.results9 ⟨by refine congrArg Value.bool ?_; simp, trivial⟩ rfl (Subs.st inferInstance)
      ·
        have p33 := h33
        try simp only [decide_eq_true_eq, decide_eq_false_iff_not, Bool.not_eq_true', Bool.not_eq_false', Option.isNone_iff_eq_none, ne_eq, Decidable.not_not, Int.not_lt, Int.not_le] at p33
        exact absurd h33 (by simp)
    ·
      have p28 := h28
      try simp only [decide_eq_true_eq, decide_eq_false_iff_not, Bool.not_eq_true', Bool.not_eq_false', Option.isNone_iff_eq_none, ne_eq, Decidable.not_not, Int.not_lt, Int.not_le] at p28
      exact absurd h28 (by simp)
  ·
    have p24 := h24
    try simp only [decide_eq_true_eq, decide_eq_false_iff_not, Bool.not_eq_true', Bool.not_eq_false', Option.isNone_iff_eq_none, ne_eq, Decidable.not_not, Int.not_lt, Int.not_le] at p24
    exact absurd h24 (by simp)
set_option maxHeartbeats 1000000 in
theorem diskNil_c {w0 : World} {H : List SA} {a : RActV} :
    CT Try.prog w0 (H) 6 [.agg a.cells] (α := Unit) (fun _ => .bool true) (fun _ => H) := by
  refine CT_intro Try.func6 rfl Try.ntmps6 rfl ?_
  refine T_seq ?_
  refine T_region ?_
  refine TL_e rfl (Ef_boxN rfl (fun b1 => ?_))
  refine TL_q (Qt_assign (.bool _) rfl) rfl ?_
  refine TL_nil ?_
  refine X_then ?_
  refine T_seq ?_
  refine T_region ?_
  refine TL_q (Qt_assign (.pointer _) rfl) rfl ?_
  refine TL_nil ?_
  refine X_then ?_
  refine T_seq ?_
  refine T_seq ?_
  refine T_region ?_
  refine TL_e rfl (Ef_call (wakes10_c) rfl (fun x8 => ?_))
  refine TL_q (Qt_not rfl) rfl ?_
  refine TL_nil ?_
  refine X_then ?_
  refine T_cond rfl (fun h9 => ?_) (fun h9 => ?_)
  ·
    have p9 := h9
    try simp only [decide_eq_true_eq, decide_eq_false_iff_not, Bool.not_eq_true', Bool.not_eq_false', Option.isNone_iff_eq_none, ne_eq, Decidable.not_not, Int.not_lt, Int.not_le] at p9
    cases h9
  ·
    have p9 := h9
    try simp only [decide_eq_true_eq, decide_eq_false_iff_not, Bool.not_eq_true', Bool.not_eq_false', Option.isNone_iff_eq_none, ne_eq, Decidable.not_not, Int.not_lt, Int.not_le] at p9
    refine T_skip ?_
    refine X_then ?_
    refine T_seq ?_
    refine T_region ?_
    refine TL_q (Qt_move (.pointer _) rfl) rfl ?_
    refine TL_q (Qt_loadN rfl rfl) rfl ?_
    refine TL_e rfl (Ef_call (doNil_c) rfl (fun x13 => ?_))
    obtain ⟨e, he⟩ : ∃ e, e = eN a.kind := ⟨_, rfl⟩
    rw [← he]
    have hE : (e = 16 ∧ 0 ≤ a.kind ∧ a.kind ≤ 3) ∨ (e = 0 ∧ (a.kind < 0 ∨ 3 < a.kind)) := by unfold eN at he; split at he <;> omega
    refine TL_q (Qt_move (.tuple _) rfl) rfl ?_
    refine TL_q (Qt_extract rfl) rfl ?_
    refine TL_q (Qt_extract rfl) rfl ?_
    refine TL_q (Qt_assign (.pointer _) rfl) rfl ?_
    refine TL_q (Qt_assign (.int .i64 _) rfl) rfl ?_
    refine TL_nil ?_
    refine X_then ?_
    refine T_seq ?_
    refine T_region ?_
    refine TL_q (Qt_move (.pointer _) rfl) rfl ?_
    refine TL_q (Qt_fieldAddr 1 rfl rfl) rfl ?_
    refine TL_q (Qt_load1 rfl) rfl ?_
    refine TL_e rfl (Ef_call (dreadNil_c) rfl (fun x20 => ?_))
    refine TL_q (Qt_move (.tuple _) rfl) rfl ?_
    refine TL_q (Qt_extract rfl) rfl ?_
    refine TL_q (Qt_extract rfl) rfl ?_
    refine TL_q (Qt_assign (.slice _ _ _) rfl) rfl ?_
    refine TL_q (Qt_assign (.int .i64 _) rfl) rfl ?_
    refine TL_nil ?_
    refine X_then ?_
    refine T_seq ?_
    refine T_region ?_
    refine TL_q (Qt_move (.pointer _) rfl) rfl ?_
    refine TL_q (Qt_ptr_nil rfl rfl Try.underlying28) rfl ?_
    refine TL_q (Qt_move (.bool _) rfl) rfl ?_
    refine TL_split 25 rfl (fun h25 => ?_) (fun h25 => ?_)
    ·
      have p25 := h25
      try simp only [decide_eq_true_eq, decide_eq_false_iff_not, Bool.not_eq_true', Bool.not_eq_false', Option.isNone_iff_eq_none, ne_eq, Decidable.not_not, Int.not_lt, Int.not_le] at p25
      refine TL_take rfl rfl h25 ?_
      refine TL_q (Qt_move (.int .i64 _) rfl) rfl ?_
      refine TL_take rfl rfl h25 ?_
      refine TL_q (Qt_eql rfl rfl) rfl ?_
      refine TL_take rfl rfl h25 ?_
      refine TL_q (Qt_move (.bool _) rfl) rfl ?_
      refine TL_split 28 rfl (fun h28 => ?_) (fun h28 => ?_)
      ·
        have p28 := h28
        try simp only [decide_eq_true_eq, decide_eq_false_iff_not, Bool.not_eq_true', Bool.not_eq_false', Option.isNone_iff_eq_none, ne_eq, Decidable.not_not, Int.not_lt, Int.not_le] at p28
        refine TL_pass rfl rfl h28 rfl ?_
        refine TL_pass rfl rfl h28 rfl ?_
        refine TL_pass rfl rfl h28 rfl ?_
        refine TL_passU rfl rfl rfl ?_
        refine TL_passU rfl rfl rfl ?_
        refine TL_passU rfl rfl rfl ?_
        refine TL_passU rfl rfl rfl ?_
        refine TL_passU rfl rfl rfl ?_
        refine TL_passU rfl rfl rfl ?_
        refine TL_passU rfl rfl rfl ?_
        refine TL_passU rfl rfl rfl ?_
        refine TL_pass rfl rfl h28 rfl ?_
        refine TL_take rfl rfl h25 ?_
        refine TL_q (Qt_pick_t (.bool _) rfl h28 rfl) rfl ?_
        refine TL_q (Qt_pick_t (.bool _) rfl h25 rfl) rfl ?_
        refine TL_q (Qt_move (.bool _) rfl) rfl ?_
        refine TL_take rfl rfl rfl ?_
        refine TL_q (Qt_move (.int .i64 _) rfl) rfl ?_
        refine TL_take rfl rfl rfl ?_
        refine TL_q (Qt_eql rfl rfl) rfl ?_
        refine TL_q (Qt_pick_t (.bool _) rfl rfl rfl) rfl ?_
        refine TL_q (Qt_move (.bool _) rfl) rfl ?_
        refine TL_split 47 rfl (fun h47 => ?_) (fun h47 => ?_)
        ·
          have p47 := h47
          try simp only [decide_eq_true_eq, decide_eq_false_iff_not, Bool.not_eq_true', Bool.not_eq_false', Option.isNone_iff_eq_none, ne_eq, Decidable.not_not, Int.not_lt, Int.not_le] at p47
          refine TL_take rfl rfl h47 ?_
          refine TL_q (Qt_move (.pointer _) rfl) rfl ?_
          refine TL_take rfl rfl h47 ?_
          refine TL_e rfl (Ef_call (namesNil_c) rfl (fun x49 => ?_))
          refine TL_take rfl rfl h47 ?_
          refine TL_q (Qt_len_slice rfl Try.underlying55) rfl ?_
          refine TL_take rfl rfl h47 ?_
          refine TL_q (Qt_eql rfl rfl) rfl ?_
          refine TL_q (Qt_pick_t (.bool _) rfl h47 rfl) rfl ?_
          refine TL_q (Qt_move (.bool _) rfl) rfl ?_
          refine TL_split 53 rfl (fun h53 => ?_) (fun h53 => ?_)
          ·
            have p53 := h53
            try simp only [decide_eq_true_eq, decide_eq_false_iff_not, Bool.not_eq_true', Bool.not_eq_false', Option.isNone_iff_eq_none, ne_eq, Decidable.not_not, Int.not_lt, Int.not_le] at p53
            refine TL_take rfl rfl h53 ?_
            refine TL_q (Qt_move (.pointer _) rfl) rfl ?_
            refine TL_take rfl rfl h53 ?_
            refine TL_e rfl (Ef_call (pendingNil_c) rfl (fun x55 => ?_))
            refine TL_take rfl rfl h53 ?_
            refine TL_q (Qt_eql rfl rfl) rfl ?_
            refine TL_q (Qt_pick_t (.bool _) rfl h53 rfl) rfl ?_
            refine TL_q (Qt_assign (.bool _) rfl) rfl ?_
            refine TL_nil ?_
            refine X_then ?_
            refine T_ret ?_
            refine X_ret () [.bool true] Try.results6 ⟨congrArg Value.bool ?_, trivial⟩ rfl (Subs.st inferInstance)
            first | (exfalso; omega) | (simp; done) | (simp; omega) | rfl | (simp_all; done) | (simp_all; omega)
          ·
            have p53 := h53
            try simp only [decide_eq_true_eq, decide_eq_false_iff_not, Bool.not_eq_true', Bool.not_eq_false', Option.isNone_iff_eq_none, ne_eq, Decidable.not_not, Int.not_lt, Int.not_le] at p53
            refine TL_pass rfl rfl h53 rfl ?_
            refine TL_pass rfl rfl h53 rfl ?_
            refine TL_pass rfl rfl h53 rfl ?_
            refine TL_q (Qt_pick_f (.bool _) rfl h53 rfl) rfl ?_
            refine TL_q (Qt_assign (.bool _) rfl) rfl ?_
            refine TL_nil ?_
            refine X_then ?_
            refine T_ret ?_
            refine X_ret () [.bool true] Try.results6 ⟨congrArg Value.bool ?_, trivial⟩ rfl (Subs.st inferInstance)
            first | (exfalso; omega) | (simp; done) | (simp; omega) | rfl | (simp_all; done) | (simp_all; omega)
        ·
          have p47 := h47
          try simp only [decide_eq_true_eq, decide_eq_false_iff_not, Bool.not_eq_true', Bool.not_eq_false', Option.isNone_iff_eq_none, ne_eq, Decidable.not_not, Int.not_lt, Int.not_le] at p47
          refine TL_pass rfl rfl h47 rfl ?_
          refine TL_pass rfl rfl h47 rfl ?_
          refine TL_pass rfl rfl h47 rfl ?_
          refine TL_pass rfl rfl h47 rfl ?_
          refine TL_q (Qt_pick_f (.bool _) rfl h47 rfl) rfl ?_
          refine TL_q (Qt_move (.bool _) rfl) rfl ?_
          refine TL_pass rfl rfl rfl rfl ?_
          refine TL_pass rfl rfl rfl rfl ?_
          refine TL_pass rfl rfl rfl rfl ?_
          refine TL_q (Qt_pick_f (.bool _) rfl rfl rfl) rfl ?_
          refine TL_q (Qt_assign (.bool _) rfl) rfl ?_
          refine TL_nil ?_
          refine X_then ?_
          refine T_ret ?_
          refine X_ret () [.bool true] Try.results6 ⟨congrArg Value.bool ?_, trivial⟩ rfl (Subs.st inferInstance)
          first | (exfalso; omega) | (simp; done) | (simp; omega) | rfl | (simp_all; done) | (simp_all; omega)
      ·
        have p28 := h28
        try simp only [decide_eq_true_eq, decide_eq_false_iff_not, Bool.not_eq_true', Bool.not_eq_false', Option.isNone_iff_eq_none, ne_eq, Decidable.not_not, Int.not_lt, Int.not_le] at p28
        refine TL_take rfl rfl h28 ?_
        refine TL_q (Qt_move (.int .i64 _) rfl) rfl ?_
        refine TL_take rfl rfl h28 ?_
        refine TL_q (Qt_eql rfl rfl) rfl ?_
        refine TL_take rfl rfl h28 ?_
        refine TL_q (Qt_move (.bool _) rfl) rfl ?_
        refine TL_split 31 rfl (fun h31 => ?_) (fun h31 => ?_)
        ·
          have p31 := h31
          try simp only [decide_eq_true_eq, decide_eq_false_iff_not, Bool.not_eq_true', Bool.not_eq_false', Option.isNone_iff_eq_none, ne_eq, Decidable.not_not, Int.not_lt, Int.not_le] at p31
          refine TL_take rfl rfl h31 ?_
          refine TL_q (Qt_fieldAddr 0 rfl rfl) rfl ?_
          refine TL_take rfl rfl h31 ?_
          refine TL_q (Qt_load1 rfl) rfl ?_
          refine TL_take rfl rfl h31 ?_
          refine TL_q (Qt_gtr rfl rfl) rfl ?_
          refine TL_take rfl rfl h31 ?_
          refine TL_q (Qt_move (.bool _) rfl) rfl ?_
          refine TL_split 35 rfl (fun h35 => ?_) (fun h35 => ?_)
          ·
            have p35 := h35
            try simp only [decide_eq_true_eq, decide_eq_false_iff_not, Bool.not_eq_true', Bool.not_eq_false', Option.isNone_iff_eq_none, ne_eq, Decidable.not_not, Int.not_lt, Int.not_le] at p35
            refine TL_pass rfl rfl h35 rfl ?_
            refine TL_pass rfl rfl h35 rfl ?_
            refine TL_pass rfl rfl h35 rfl ?_
            refine TL_take rfl rfl h31 ?_
            refine TL_q (Qt_pick_t (.bool _) rfl h35 rfl) rfl ?_
            refine TL_take rfl rfl h28 ?_
            refine TL_q (Qt_pick_t (.bool _) rfl h31 rfl) rfl ?_
            refine TL_take rfl rfl h25 ?_
            refine TL_q (Qt_pick_f (.bool _) rfl h28 rfl) rfl ?_
            refine TL_q (Qt_pick_t (.bool _) rfl h25 rfl) rfl ?_
            refine TL_q (Qt_move (.bool _) rfl) rfl ?_
            refine TL_take rfl rfl rfl ?_
            refine TL_q (Qt_move (.int .i64 _) rfl) rfl ?_
            refine TL_take rfl rfl rfl ?_
            refine TL_q (Qt_eql rfl rfl) rfl ?_
            refine TL_q (Qt_pick_t (.bool _) rfl rfl rfl) rfl ?_
            refine TL_q (Qt_move (.bool _) rfl) rfl ?_
            refine TL_split 47 rfl (fun h47 => ?_) (fun h47 => ?_)
            ·
              have p47 := h47
              try simp only [decide_eq_true_eq, decide_eq_false_iff_not, Bool.not_eq_true', Bool.not_eq_false', Option.isNone_iff_eq_none, ne_eq, Decidable.not_not, Int.not_lt, Int.not_le] at p47
              refine TL_take rfl rfl h47 ?_
              refine TL_q (Qt_move (.pointer _) rfl) rfl ?_
              refine TL_take rfl rfl h47 ?_
              refine TL_e rfl (Ef_call (namesNil_c) rfl (fun x49 => ?_))
              refine TL_take rfl rfl h47 ?_
              refine TL_q (Qt_len_slice rfl Try.underlying55) rfl ?_
              refine TL_take rfl rfl h47 ?_
              refine TL_q (Qt_eql rfl rfl) rfl ?_
              refine TL_q (Qt_pick_t (.bool _) rfl h47 rfl) rfl ?_
              refine TL_q (Qt_move (.bool _) rfl) rfl ?_
              refine TL_split 53 rfl (fun h53 => ?_) (fun h53 => ?_)
              ·
                have p53 := h53
                try simp only [decide_eq_true_eq, decide_eq_false_iff_not, Bool.not_eq_true', Bool.not_eq_false', Option.isNone_iff_eq_none, ne_eq, Decidable.not_not, Int.not_lt, Int.not_le] at p53
                refine TL_take rfl rfl h53 ?_
                refine TL_q (Qt_move (.pointer _) rfl) rfl ?_
                refine TL_take rfl rfl h53 ?_
                refine TL_e rfl (Ef_call (pendingNil_c) rfl (fun x55 => ?_))
                refine TL_take rfl rfl h53 ?_
                refine TL_q (Qt_eql rfl rfl) rfl ?_
                refine TL_q (Qt_pick_t (.bool _) rfl h53 rfl) rfl ?_
                refine TL_q (Qt_assign (.bool _) rfl) rfl ?_
                refine TL_nil ?_
                refine X_then ?_
                refine T_ret ?_
                refine X_ret () [.bool true] Try.results6 ⟨congrArg Value.bool ?_, trivial⟩ rfl (Subs.st inferInstance)
                first | (exfalso; omega) | (simp; done) | (simp; omega) | rfl | (simp_all; done) | (simp_all; omega)
              ·
                have p53 := h53
                try simp only [decide_eq_true_eq, decide_eq_false_iff_not, Bool.not_eq_true', Bool.not_eq_false', Option.isNone_iff_eq_none, ne_eq, Decidable.not_not, Int.not_lt, Int.not_le] at p53
                refine TL_pass rfl rfl h53 rfl ?_
                refine TL_pass rfl rfl h53 rfl ?_
                refine TL_pass rfl rfl h53 rfl ?_
                refine TL_q (Qt_pick_f (.bool _) rfl h53 rfl) rfl ?_
                refine TL_q (Qt_assign (.bool _) rfl) rfl ?_
                refine TL_nil ?_
                refine X_then ?_
                refine T_ret ?_
                refine X_ret () [.bool true] Try.results6 ⟨congrArg Value.bool ?_, trivial⟩ rfl (Subs.st inferInstance)
                first | (exfalso; omega) | (simp; done) | (simp; omega) | rfl | (simp_all; done) | (simp_all; omega)
            ·
              have p47 := h47
              try simp only [decide_eq_true_eq, decide_eq_false_iff_not, Bool.not_eq_true', Bool.not_eq_false', Option.isNone_iff_eq_none, ne_eq, Decidable.not_not, Int.not_lt, Int.not_le] at p47
              refine TL_pass rfl rfl h47 rfl ?_
              refine TL_pass rfl rfl h47 rfl ?_
              refine TL_pass rfl rfl h47 rfl ?_
              refine TL_pass rfl rfl h47 rfl ?_
              refine TL_q (Qt_pick_f (.bool _) rfl h47 rfl) rfl ?_
              refine TL_q (Qt_move (.bool _) rfl) rfl ?_
              refine TL_pass rfl rfl rfl rfl ?_
              refine TL_pass rfl rfl rfl rfl ?_
              refine TL_pass rfl rfl rfl rfl ?_
              refine TL_q (Qt_pick_f (.bool _) rfl rfl rfl) rfl ?_
              refine TL_q (Qt_assign (.bool _) rfl) rfl ?_
              refine TL_nil ?_
              refine X_then ?_
              refine T_ret ?_
              refine X_ret () [.bool true] Try.results6 ⟨congrArg Value.bool ?_, trivial⟩ rfl (Subs.st inferInstance)
              first | (exfalso; omega) | (simp; done) | (simp; omega) | rfl | (simp_all; done) | (simp_all; omega)
          ·
            have p35 := h35
            try simp only [decide_eq_true_eq, decide_eq_false_iff_not, Bool.not_eq_true', Bool.not_eq_false', Option.isNone_iff_eq_none, ne_eq, Decidable.not_not, Int.not_lt, Int.not_le] at p35
            refine TL_take rfl rfl h35 ?_
            refine TL_q (Qt_fieldAddr 0 rfl rfl) rfl ?_
            refine TL_take rfl rfl h35 ?_
            refine TL_q (Qt_load1 rfl) rfl ?_
            refine TL_take rfl rfl h35 ?_
            refine TL_q (Qt_lss rfl rfl) rfl ?_
            refine TL_take rfl rfl h31 ?_
            refine TL_q (Qt_pick_f (.bool _) rfl h35 rfl) rfl ?_
            refine TL_take rfl rfl h28 ?_
            refine TL_q (Qt_pick_t (.bool _) rfl h31 rfl) rfl ?_
            refine TL_take rfl rfl h25 ?_
            refine TL_q (Qt_pick_f (.bool _) rfl h28 rfl) rfl ?_
            refine TL_q (Qt_pick_t (.bool _) rfl h25 rfl) rfl ?_
            refine TL_q (Qt_move (.bool _) rfl) rfl ?_
            refine TL_split 43 rfl (fun h43 => ?_) (fun h43 => ?_)
            ·
              have p43 := h43
              try simp only [decide_eq_true_eq, decide_eq_false_iff_not, Bool.not_eq_true', Bool.not_eq_false', Option.isNone_iff_eq_none, ne_eq, Decidable.not_not, Int.not_lt, Int.not_le] at p43
              refine TL_take rfl rfl h43 ?_
              refine TL_q (Qt_move (.int .i64 _) rfl) rfl ?_
              refine TL_take rfl rfl h43 ?_
              refine TL_q (Qt_eql rfl rfl) rfl ?_
              refine TL_q (Qt_pick_t (.bool _) rfl h43 rfl) rfl ?_
              refine TL_q (Qt_move (.bool _) rfl) rfl ?_
              refine TL_split 47 rfl (fun h47 => ?_) (fun h47 => ?_)
              ·
                have p47 := h47
                try simp only [decide_eq_true_eq, decide_eq_false_iff_not, Bool.not_eq_true', Bool.not_eq_false', Option.isNone_iff_eq_none, ne_eq, Decidable.not_not, Int.not_lt, Int.not_le] at p47
                refine TL_take rfl rfl h47 ?_
                refine TL_q (Qt_move (.pointer _) rfl) rfl ?_
                refine TL_take rfl rfl h47 ?_
                refine TL_e rfl (Ef_call (namesNil_c) rfl (fun x49 => ?_))
                refine TL_take rfl rfl h47 ?_
                refine TL_q (Qt_len_slice rfl Try.underlying55) rfl ?_
                refine TL_take rfl rfl h47 ?_
                refine TL_q (Qt_eql rfl rfl) rfl ?_
                refine TL_q (Qt_pick_t (.bool _) rfl h47 rfl) rfl ?_
                refine TL_q (Qt_move (.bool _) rfl) rfl ?_
                refine TL_split 53 rfl (fun h53 => ?_) (fun h53 => ?_)
                ·
                  have p53 := h53
                  try simp only [decide_eq_true_eq, decide_eq_false_iff_not, Bool.not_eq_true', Bool.not_eq_false', Option.isNone_iff_eq_none, ne_eq, Decidable.not_not, Int.not_lt, Int.not_le] at p53
                  refine TL_take rfl rfl h53 ?_
                  refine TL_q (Qt_move (.pointer _) rfl) rfl ?_
                  refine TL_take rfl rfl h53 ?_
                  refine TL_e rfl (Ef_call (pendingNil_c) rfl (fun x55 => ?_))
                  refine TL_take rfl rfl h53 ?_
                  refine TL_q (Qt_eql rfl rfl) rfl ?_
                  refine TL_q (Qt_pick_t (.bool _) rfl h53 rfl) rfl ?_
                  refine TL_q (Qt_assign (.bool _) rfl) rfl ?_
                  refine TL_nil ?_
                  refine X_then ?_
                  refine T_ret ?_
                  refine X_ret () [.bool true] Try.results6 ⟨congrArg Value.bool ?_, trivial⟩ rfl (Subs.st inferInstance)
                  first | (exfalso; omega) | (simp; done) | (simp; omega) | rfl | (simp_all; done) | (simp_all; omega)
                ·
                  have p53 := h53
                  try simp only [decide_eq_true_eq, decide_eq_false_iff_not, Bool.not_eq_true', Bool.not_eq_false', Option.isNone_iff_eq_none, ne_eq, Decidable.not_not, Int.not_lt, Int.not_le] at p53
                  refine TL_pass rfl rfl h53 rfl ?_
                  refine TL_pass rfl rfl h53 rfl ?_
                  refine TL_pass rfl rfl h53 rfl ?_
                  refine TL_q (Qt_pick_f (.bool _) rfl h53 rfl) rfl ?_
                  refine TL_q (Qt_assign (.bool _) rfl) rfl ?_
                  refine TL_nil ?_
                  refine X_then ?_
                  refine T_ret ?_
                  refine X_ret () [.bool true] Try.results6 ⟨congrArg Value.bool ?_, trivial⟩ rfl (Subs.st inferInstance)
                  first | (exfalso; omega) | (simp; done) | (simp; omega) | rfl | (simp_all; done) | (simp_all; omega)
              ·
                have p47 := h47
                try simp only [decide_eq_true_eq, decide_eq_false_iff_not, Bool.not_eq_true', Bool.not_eq_false', Option.isNone_iff_eq_none, ne_eq, Decidable.not_not, Int.not_lt, Int.not_le] at p47
                refine TL_pass rfl rfl h47 rfl ?_
                refine TL_pass rfl rfl h47 rfl ?_
                refine TL_pass rfl rfl h47 rfl ?_
                refine TL_pass rfl rfl h47 rfl ?_
                refine TL_q (Qt_pick_f (.bool _) rfl h47 rfl) rfl ?_
                refine TL_q (Qt_move (.bool _) rfl) rfl ?_
                refine TL_pass rfl rfl rfl rfl ?_
                refine TL_pass rfl rfl rfl rfl ?_
                refine TL_pass rfl rfl rfl rfl ?_
                refine TL_q (Qt_pick_f (.bool _) rfl rfl rfl) rfl ?_
                refine TL_q (Qt_assign (.bool _) rfl) rfl ?_
                refine TL_nil ?_
                refine X_then ?_
                refine T_ret ?_
                refine X_ret () [.bool true] Try.results6 ⟨congrArg Value.bool ?_, trivial⟩ rfl (Subs.st inferInstance)
                first | (exfalso; omega) | (simp; done) | (simp; omega) | rfl | (simp_all; done) | (simp_all; omega)
            ·
              have p43 := h43
              try simp only [decide_eq_true_eq, decide_eq_false_iff_not, Bool.not_eq_true', Bool.not_eq_false', Option.isNone_iff_eq_none, ne_eq, Decidable.not_not, Int.not_lt, Int.not_le] at p43
              refine TL_pass rfl rfl h43 rfl ?_
              refine TL_pass rfl rfl h43 rfl ?_
              refine TL_q (Qt_pick_f (.bool _) rfl h43 rfl) rfl ?_
              refine TL_q (Qt_move (.bool _) rfl) rfl ?_
              refine TL_pass rfl rfl rfl rfl ?_
              refine TL_pass rfl rfl rfl rfl ?_
              refine TL_pass rfl rfl rfl rfl ?_
              refine TL_pass rfl rfl rfl rfl ?_
              refine TL_q (Qt_pick_f (.bool _) rfl rfl rfl) rfl ?_
              refine TL_q (Qt_move (.bool _) rfl) rfl ?_
              refine TL_pass rfl rfl rfl rfl ?_
              refine TL_pass rfl rfl rfl rfl ?_
              refine TL_pass rfl rfl rfl rfl ?_
              refine TL_q (Qt_pick_f (.bool _) rfl rfl rfl) rfl ?_
              refine TL_q (Qt_assign (.bool _) rfl) rfl ?_
              refine TL_nil ?_
              refine X_then ?_
              refine T_ret ?_
              refine X_ret () [.bool true] Try.results6 ⟨congrArg Value.bool ?_, trivial⟩ rfl (Subs.st inferInstance)
              first | (exfalso; omega) | (simp; done) | (simp; omega) | rfl | (simp_all; done) | (simp_all; omega)
        ·
          have p31 := h31
          try simp only [decide_eq_true_eq, decide_eq_false_iff_not, Bool.not_eq_true', Bool.not_eq_false', Option.isNone_iff_eq_none, ne_eq, Decidable.not_not, Int.not_lt, Int.not_le] at p31
          refine TL_pass rfl rfl h31 rfl ?_
          refine TL_pass rfl rfl h31 rfl ?_
          refine TL_pass rfl rfl h31 rfl ?_
          refine TL_pass rfl rfl h31 rfl ?_
          refine TL_passU rfl rfl rfl ?_
          refine TL_passU rfl rfl rfl ?_
          refine TL_passU rfl rfl rfl ?_
          refine TL_pass rfl rfl h31 rfl ?_
          refine TL_take rfl rfl h28 ?_
          refine TL_q (Qt_pick_f (.bool _) rfl h31 rfl) rfl ?_
          refine TL_take rfl rfl h25 ?_
          refine TL_q (Qt_pick_f (.bool _) rfl h28 rfl) rfl ?_
          refine TL_q (Qt_pick_t (.bool _) rfl h25 rfl) rfl ?_
          refine TL_q (Qt_move (.bool _) rfl) rfl ?_
          refine TL_pass rfl rfl rfl rfl ?_
          refine TL_pass rfl rfl rfl rfl ?_
          refine TL_q (Qt_pick_f (.bool _) rfl rfl rfl) rfl ?_
          refine TL_q (Qt_move (.bool _) rfl) rfl ?_
          refine TL_pass rfl rfl rfl rfl ?_
          refine TL_pass rfl rfl rfl rfl ?_
          refine TL_pass rfl rfl rfl rfl ?_
          refine TL_pass rfl rfl rfl rfl ?_
          refine TL_q (Qt_pick_f (.bool _) rfl rfl rfl) rfl ?_
          refine TL_q (Qt_move (.bool _) rfl) rfl ?_
          refine TL_pass rfl rfl rfl rfl ?_
          refine TL_pass rfl rfl rfl rfl ?_
          refine TL_pass rfl rfl rfl rfl ?_
          refine TL_q (Qt_pick_f (.bool _) rfl rfl rfl) rfl ?_
          refine TL_q (Qt_assign (.bool _) rfl) rfl ?_
          refine TL_nil ?_
          refine X_then ?_
          refine T_ret ?_
          refine X_ret () [.bool true] Try.results6 ⟨congrArg Value.bool ?_, trivial⟩ rfl (Subs.st inferInstance)
          first | (exfalso; omega) | (simp; done) | (simp; omega) | rfl | (simp_all; done) | (simp_all; omega)
    ·
      have p25 := h25
      try simp only [decide_eq_true_eq, decide_eq_false_iff_not, Bool.not_eq_true', Bool.not_eq_false', Option.isNone_iff_eq_none, ne_eq, Decidable.not_not, Int.not_lt, Int.not_le] at p25
      cases h25
end Go.Proofs.Ytededghplnoajaa
