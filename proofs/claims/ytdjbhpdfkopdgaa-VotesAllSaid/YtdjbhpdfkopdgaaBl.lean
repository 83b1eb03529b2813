/- The book: its map, begin, copied, New, Wrote, Accepted. -/
import Derived.Test.YtdjbhpdfkopdgaaBk
namespace Go.Proofs.Ytdjbhpdfkopdgaa
open Go.RowKit Go.Sx
set_option maxRecDepth 100000
set_option linter.unusedSimpArgs false
set_option linter.unusedVariables false
theorem EraV.check' (k : EraV) (empty : Bool) (w : World) (d : Nat) : (Instr.checkKey empty (d + 1 + 1) 57 (.agg k.cells)).run Try.prog w = .ok () w := by
  rw [Instr.checkKey]
  simp only [Sem.run_bind, run_underlying Try.underlying57, Result.andThen_ok]
  simp only [List.forIn_toArray, List.forIn_cons, List.forIn_nil, ne_eq, String.reduceEq, not_false_eq_true, if_true, Sem.run_bind, part1, Result.andThen_ok, Instr.checkKey, run_underlying Try.underlying3, Sem.run_pure]
theorem EraV.same' (k : EraV) (d : Nat) : Instr.sameBits (d + 2) (.agg k.cells) (.agg k.cells) = true := by
  simp [Instr.sameBits, EraV.cells, EraV.list]
instance : Key Try.prog 57 encE where
  eq x y w := equal_run (x := encE x) (y := encE y) (h := (inferInstance : EqV Try.prog 57 (.agg x.cells) (.agg y.cells) _)) w
  now d _ x y := .inl (sameNow_agg d _ _)
  there := by rw [Try.underlying57]; rfl
  check k empty w := EraV.check' k empty w 9998
  same k := by
    have h : ∀ n : Nat, n = 9998 + 2 → Instr.sameBits n (encE k) (encE k) = true := fun n hn => by rw [hn]; exact EraV.same' k 9998
    exact h 10000 (by decide)
theorem vote_zero : (Try.prog.info? 27).bind (·.zero) = some (encV VoteV.zero) := (inferInstance : TyZ Try.prog 27 (.agg VoteV.zero.cells)).ok

theorem copiedEnd {w0 w : World} {H : List SA} {b1 b2 : Nat} {v u : VoteV} {ls : List BS} {a1 a8 : Option Addr} {c1 c8 : Nat} {l : List UInt8} {fp : List Nat}
    (h : St w0 (blk b2 (.cells u.cells 27 (0, 0)) :: blk b1 (.cells u.cells 27 (0, 0)) :: row (.slice a1 ls.length c1) 24 1 (ls.map BS.val) :: eachA fp ls :: row (.slice a8 l.length c8) 5 1 (bytesV l) :: H) w) (hu : u = { v with batch := ⟨a8, c8, l⟩, cert := ⟨a1, c1, ls⟩ }) :
    ∃ fp2, St w0 (datV fp2 [u] :: blk b2 (.cells u.cells 27 (0, 0)) :: H) w := by
  subst hu
  have h1 : St w0 (row (.slice a1 ls.length c1) 24 1 (ls.map BS.val) :: eachA fp ls :: row (.slice a8 l.length c8) 5 1 (bytesV l) :: blk b2 (.cells ({ v with batch := ⟨a8, c8, l⟩, cert := ⟨a1, c1, ls⟩ } : VoteV).cells 27 (0, 0)) :: H) w := Subs.st inferInstance w h
  exact St.datMk (v := { v with batch := ⟨a8, c8, l⟩, cert := ⟨a1, c1, ls⟩ }) h1

set_option maxHeartbeats 1000000 in
theorem copied_c {w0 : World} {H : List SA} {v : VoteV} [rbv : RdB w0 H (.slice v.batch.a v.batch.l.length v.batch.c) v.batch.l] [rcv : RdC w0 H (.slice v.cert.a v.cert.ls.length v.cert.c) 1 (v.cert.ls.map BS.val)] [rev : RdE w0 H v.cert.ls] (hs : SmallV v.abs) :
    CT Try.prog w0 (H) 29 [.agg v.cells] (α := VoteV × List Nat) (fun y => .agg y.1.cells) (fun y => pu (y.1.abs = v.abs) :: datV y.2 [y.1] :: H) := by
  refine CT_intro Try.func29 rfl Try.ntmps29 rfl ?_
  refine T_seq ?_
  refine T_region ?_
  refine TL_e rfl (Ef_boxN rfl (fun b1 => ?_))
  refine TL_e rfl (Ef_allocN (fun b2 => ?_))
  refine TL_nil ?_
  refine X_then ?_
  refine T_seq ?_
  refine T_region ?_
  refine TL_q (Qt_fieldAddr 36 rfl rfl) rfl ?_
  refine TL_q (Qt_load1 rfl) rfl ?_
  refine TL_e rfl (Ef_call (clone_c (by have := hs.batch; omega)) rfl (fun x8 => ?_))
  refine TL_q (Qt_fieldAddr 36 rfl rfl) rfl ?_
  refine TL_n (Ef_store1 (.slice _ _ _) rfl rfl (?_))
  refine TL_nil ?_
  refine X_then ?_
  refine T_seq ?_
  refine T_region ?_
  refine TL_q (Qt_assign (.slice _ _ _) rfl) rfl ?_
  refine TL_nil ?_
  refine X_then ?_
  refine T_seq ?_
  refine T_seq ?_
  refine T_region ?_
  refine TL_q (Qt_fieldAddr 37 rfl rfl) rfl ?_
  refine TL_q (Qt_load1 rfl) rfl ?_
  refine TL_q (Qt_len_slice rfl Try.underlying25) rfl ?_
  refine TL_q (Qt_move (.int .i64 _) rfl) rfl ?_
  refine TL_nil ?_
  refine X_then ?_
  refine T_block ?_
  have hsc := hs.cert
  refine T_loop [3, 5, 13, 14, 15, 16, 17, 18, 19, 20, 21, 22] [13, 3] (fun us H' => ∃ (k : Nat) (a : Option Addr) (c : Nat) (ls : List BS) (fp : List Nat), us = [.int .i64 (k : Int), .slice a (ls.map BS.val).length c] ∧ row (.slice a (ls.map BS.val).length c) 24 1 (ls.map BS.val) :: eachA fp ls :: row (.slice x8.a v.batch.l.length x8.c) 5 1 (bytesV v.batch.l) :: blk b1 (.cells ({ v with batch := ⟨x8.a, x8.c, v.batch.l⟩ } : VoteV).cells 27 (0, 0)) :: blk b2 (.cells VoteV.zero.cells 27 (0, 0)) :: H = H' ∧ k ≤ v.cert.ls.length ∧ ls.map BS.l = (v.cert.ls.map BS.l).take k) (fun us => match us with | .int _ i :: _ => v.cert.ls.length - i.toNat | _ => 0) ⟨0, none, 0, [], [], rfl, rfl, by omega, rfl⟩ (fun w hw => ((Subs.st inferInstance w hw : St w0 (row (.slice x8.a v.batch.l.length x8.c) 5 1 (bytesV v.batch.l) :: blk b1 (.cells ({ v with batch := ⟨x8.a, x8.c, v.batch.l⟩ } : VoteV).cells 27 (0, 0)) :: blk b2 (.cells VoteV.zero.cells 27 (0, 0)) :: H) w).eachNil).addNilV 24) ?_
  rintro τ0 _ _  ⟨k, a1, c1, ls, fp, rfl, rfl, hk0, hls⟩ _
  have hll : ls.length = k := by have := congrArg List.length hls; simp at this; omega
  refine T_seq ?_
  refine T_region ?_
  refine TL_q (Qt_lss rfl rfl) rfl ?_
  refine TL_nil ?_
  refine X_then ?_
  refine T_seq ?_
  refine T_cond rfl (fun h14 => ?_) (fun h14 => ?_)
  ·
    have p14 := h14
    try simp only [decide_eq_true_eq, decide_eq_false_iff_not, Bool.not_eq_true', Bool.not_eq_false', Option.isNone_iff_eq_none, ne_eq, Decidable.not_not, Int.not_lt, Int.not_le] at p14
    have hk : k < v.cert.ls.length := by omega
    have hk' : (k : Int) < v.cert.ls.length := by omega
    refine T_skip ?_
    refine X_then ?_
    refine T_seq ?_
    refine T_block ?_
    refine T_seq ?_
    refine T_region ?_
    refine TL_q (Qt_indexR rfl rfl (by omega) (by simpa using hk')) rfl ?_
    refine TL_q (Qt_loadR (.slice _ _ _) rfl (vals_get _ _ hk)) rfl ?_
    refine TL_q (Qt_assign (.slice _ _ _) rfl) rfl ?_
    refine TL_nil ?_
    refine X_then ?_
    refine T_region ?_
    refine TL_q (Qt_move (.slice _ _ _) rfl) rfl ?_
    refine TL_q (Qt_move (.slice _ _ _) rfl) rfl ?_
    have hmem : v.cert.ls[k] ∈ v.cert.ls := List.getElem_mem hk
    have : RdB w0 H (.slice v.cert.ls[k].a v.cert.ls[k].l.length v.cert.ls[k].c) v.cert.ls[k].l := rev.get hmem
    refine TL_e rfl (Ef_call (clone_c (by have := hs.each _ hmem; omega)) rfl (fun x19 => ?_))
    refine TL_e rfl (Ef_slice1 (v := .slice _ _ _) rfl (fun a20 c20 => ?_))
    refine TL_e rfl (Ef_append1 (sv := .slice _ _ _) (xv := .slice _ _ _) rfl rfl (by simp [Value.oneCell']) (by simp; omega) rfl (fun a21 c21 => ?_))
    refine TL_q (Qt_assign (.slice _ _ _) rfl) rfl ?_
    refine TL_nil ?_
    refine X_block ?_
    refine X_then ?_
    refine T_region ?_
    first
      | refine TL_q (Qt_add rfl rfl (by omega) (by omega)) rfl ?_
      | refine TL_q (Qt_addw rfl rfl) rfl ?_
    refine TL_q (Qt_move (.int .i64 _) rfl) rfl ?_
    refine TL_nil ?_
    refine X_loop _ (by repeat (first | with_reducible exact agree_refl | refine agree_upd rfl ?_ | refine agree_mix rfl ?_ | refine agree_setAll rfl ?_)) (⟨k + 1, a21, c21, ls ++ [⟨x19.a, x19.c, v.cert.ls[k].l⟩], rowFp (.slice x19.a v.cert.ls[k].l.length x19.c) ++ fp, by simp only [List.map_append, List.map_cons, List.map_nil]; rfl, rfl, by omega, by rw [take_get _ _ (by simpa using hk), List.map_append, hls]; simp⟩) (by show v.cert.ls.length - (k + 1 : Int).toNat < v.cert.ls.length - (k : Int).toNat; omega) (fun w hw => by
              have h1 : St w0 (row (.slice a21 ((ls.map BS.val) ++ [Value.slice x19.a v.cert.ls[k].l.length x19.c]).length c21) 24 1 ((ls.map BS.val) ++ [Value.slice x19.a v.cert.ls[k].l.length x19.c]) :: row (BS.val ⟨x19.a, x19.c, v.cert.ls[k].l⟩) 5 1 (bytesV v.cert.ls[k].l) :: eachA fp ls :: row (.slice x8.a v.batch.l.length x8.c) 5 1 (bytesV v.batch.l) :: blk b1 (.cells ({ v with batch := ⟨x8.a, x8.c, v.batch.l⟩ } : VoteV).cells 27 (0, 0)) :: blk b2 (.cells VoteV.zero.cells 27 (0, 0)) :: H) w := Subs.st inferInstance w hw
              rw [show (ls ++ [(⟨x19.a, x19.c, v.cert.ls[k].l⟩ : BS)]).map BS.val = (ls.map BS.val) ++ [Value.slice x19.a v.cert.ls[k].l.length x19.c] from by simp only [List.map_append, List.map_cons, List.map_nil]]
              exact eachUnder h1)
  ·
    have p14 := h14
    try simp only [decide_eq_true_eq, decide_eq_false_iff_not, Bool.not_eq_true', Bool.not_eq_false', Option.isNone_iff_eq_none, ne_eq, Decidable.not_not, Int.not_lt, Int.not_le] at p14
    have et : (v.cert.ls.map BS.l).take k = v.cert.ls.map BS.l := List.take_of_length_le (by simp; omega)
    rw [et] at hls
    rw [show (ls.map BS.val).length = ls.length from by simp]
    refine T_exit ?_
    refine X_then_exit ?_
    refine X_loop_exit ?_
    refine X_block_exit ?_
    refine X_then ?_
    refine T_seq ?_
    refine T_region ?_
    refine TL_q (Qt_move (.slice _ _ _) rfl) rfl ?_
    refine TL_q (Qt_fieldAddr 37 rfl rfl) rfl ?_
    refine TL_n (Ef_store1 (.slice _ _ _) rfl rfl (?_))
    refine TL_nil ?_
    refine X_then ?_
    refine T_seq ?_
    refine T_region ?_
    refine TL_q (Qt_loadN rfl rfl) rfl ?_
    refine TL_n (Ef_storeN rfl rfl (?_))
    refine TL_nil ?_
    refine X_then ?_
    refine T_ret ?_
    refine X_conv (fun w hw => copiedEnd (v := v) hw rfl) (fun fp2 => ?_)
    exact X_ret (({ v with batch := ⟨x8.a, x8.c, v.batch.l⟩, cert := ⟨a1, c1, ls⟩ } : VoteV), fp2) [_] Try.results29 ⟨⟨_, rfl, res_cellN rfl⟩, trivial⟩ rfl (fun w hw => (Subs.st inferInstance w hw : St w0 (datV fp2 [_] :: H) w).addPure (by simp only [VoteV.abs, hls]))
end Go.Proofs.Ytdjbhpdfkopdgaa
