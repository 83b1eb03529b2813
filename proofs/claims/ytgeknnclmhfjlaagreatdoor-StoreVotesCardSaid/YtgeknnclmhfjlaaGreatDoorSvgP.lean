/- Walks of package store: a store is opened on a disk with the records of votes. -/
import Derived.Test.YtgeknnclmhfjlaaGreatDoorSvfP
import Derived.Test.YtgeknnclmhfjlaaGreatDoorPaP
import Derived.Test.YtgeknnclmhfjlaaGreatDoorAdP
import Derived.Test.YtgeknnclmhfjlaaGreatDoorSgP
namespace Go.Proofs.YtgeknnclmhfjlaaGreatDoor
section
open Go.RowKit Go.Sx
set_option maxRecDepth 100000
set_option linter.unusedSimpArgs false
set_option linter.unusedVariables false
theorem put_ok {v : VoteD} (h : (putV v).2 = 0) : (putV v).1 = told v ∧ formedB v = true ∧ (told v).length ≤ 65536 ∧ v.cert.length ≤ 16 := by
  unfold putV at h ⊢
  split at h
  · cases h
  · rename_i h1
    split at h
    · cases h
    · rename_i h2
      split at h
      · cases h
      · rename_i h3
        split at h
        · rename_i h4
          rw [if_neg h1, if_neg h2, if_neg h3, if_pos h4]
          exact ⟨rfl, h4, by omega, by omega⟩
        · cases h
theorem put_small {v : VoteD} (h : (putV v).2 = 0) : SmallV v := by
  obtain ⟨-, -, h3, h4⟩ := put_ok h
  have h5 := told_long (v := v)
  exact ⟨by omega, by omega, fun c hc => by have := h5.2 c hc; omega⟩
theorem recV_drop (v : VoteD) : (recV v).drop 1 = (putV v).1 := rfl
theorem recV_byte (v : VoteD) : (bytesV (recV v))[((0 : Nat) : Int).toNat]? = some (.int .u8 2) := rfl
theorem recV_pos (v : VoteD) : 0 < (recV v).length := Nat.succ_pos _
/-- What a book is behind votes. -/
def takeAll (us : List VoteD) : BookD := us.foldl (fun b v => (takeD b v).1) BookD.zero
theorem takeAll_step (us : List VoteD) (k : Nat) (hk : k < us.length) : takeAll (us.take (k + 1)) = (takeD (takeAll (us.take k)) us[k]).1 := by
  unfold takeAll
  rw [List.take_succ_eq_append_getElem hk, List.foldl_append]; rfl
@[reducible] def qblkO (q sb p : Nat) (lo : Option Addr) (bp : Nat) (fu : Bool) : SA := blk q (.cells (StoreV.mk (some ⟨sb, 0, none⟩) (some ⟨p, 0, none⟩) lo (some ⟨bp, 0, none⟩) fu).cells 80 (0, 0))
attribute [local irreducible] toldB recsB nmB lastN newN sha recV worldB putV takeD
set_option maxHeartbeats 1000000 in
theorem replayV_c {w0 : World} {H : List SA} {q sb p bp : Nat} {lo : Option Addr} {fu : Bool} {y : BkS} (hy : y.Ok) {b : BS} [rb : RdB w0 H (.slice b.a b.l.length b.c) b.l] {v : VoteD} (hb : b.l = recV v) (hput : (putV v).2 = 0) :
    CT Tryz.prog w0 (qblkO q sb p lo bp fu :: BkS.H y bp H) 29 [.pointer (some ⟨q, 0, none⟩), .slice b.a b.l.length b.c] (α := BkS) (fun _ => .tuple #[]) (fun z => pu (z.Ok ∧ z.abs = (takeD y.abs v).1) :: qblkO q sb p lo bp fu :: BkS.H z bp H) := by
  obtain ⟨hpt, hfm, htl, hcl⟩ := put_ok hput
  have hbl : 0 < b.l.length := by rw [hb]; exact recV_pos v
  refine CT_intro Tryz.func29 rfl Tryz.ntmps29 rfl ?_
  refine T_seq ?_
  refine T_seq ?_
  refine T_region ?_
  refine TL_q (Qt_move (.slice _ _ _) rfl) rfl ?_
  refine TL_q (Qt_len_slice rfl Tryz.underlying41) rfl ?_
  refine TL_q (Qt_eql rfl rfl) rfl ?_
  refine TL_nil ?_
  refine X_then ?_
  refine T_cond rfl (fun h10 => ?_) (fun h10 => ?_)
  ·
    have p10 := h10
    try simp only [decide_eq_true_eq, decide_eq_false_iff_not, Bool.not_eq_true', Bool.not_eq_false', Option.isNone_iff_eq_none, ne_eq, Decidable.not_not, Int.not_lt, Int.not_le] at p10
    exact absurd p10 (by have := recV_pos v; rw [← hb] at this; omega)
  ·
    have p10 := h10
    try simp only [decide_eq_true_eq, decide_eq_false_iff_not, Bool.not_eq_true', Bool.not_eq_false', Option.isNone_iff_eq_none, ne_eq, Decidable.not_not, Int.not_lt, Int.not_le] at p10
    refine T_skip ?_
    refine X_then ?_
    refine T_seq ?_
    refine T_region ?_
    refine TL_q (Qt_move (.slice _ _ _) rfl) rfl ?_
    refine TL_q (Qt_indexR rfl rfl (by omega) (by rw [hb]; simpa using recV_pos v)) rfl ?_
    refine TL_q (Qt_loadR (.int .u8 2) rfl (by rw [hb]; exact recV_byte v)) rfl ?_
    refine TL_nil ?_
    refine X_then ?_
    refine T_block ?_
    refine T_seq ?_
    refine T_region ?_
    refine TL_q (Qt_eql rfl rfl) rfl ?_
    refine TL_q (Qt_assign (.bool _) rfl) rfl ?_
    refine TL_nil ?_
    refine X_then ?_
    refine T_cond_true rfl (by first | rfl | decide) ?_
    refine T_seq ?_
    refine T_region ?_
    refine TL_q (Qt_move (.slice _ _ _) rfl) rfl ?_
    refine TL_q (Qt_sliceB_l 1 rfl rfl (by omega)) rfl ?_
    refine TL_e rfl (Ef_call (get_c (l := b.l.drop 1) (v := v) (by rw [hb, recV_drop]; exact hpt) hfm (by rw [hb, recV_drop, hpt]; exact htl) hcl) rfl (fun x19 => ?_))
    refine TL_pure (fun h19 => ?_)
    refine TL_q (Qt_move (.tuple _) rfl) rfl ?_
    refine TL_q (Qt_extract rfl) rfl ?_
    refine TL_q (Qt_extract rfl) rfl ?_
    refine TL_e rfl (Ef_allocN (fun b4 => ?_))
    refine TL_n (Ef_storeN rfl rfl (?_))
    refine TL_q (Qt_assign (.int .i64 _) rfl) rfl ?_
    refine TL_nil ?_
    refine X_then ?_
    refine T_seq ?_
    refine T_region ?_
    refine TL_q (Qt_move (.int .i64 _) rfl) rfl ?_
    refine TL_q (Qt_eql rfl rfl) rfl ?_
    refine TL_nil ?_
    refine X_then ?_
    refine T_cond_true rfl (by first | rfl | decide) ?_
    refine T_draw (blk b4 (.cells x19.1.cells 44 (0, 0)) :: qblkO q sb p lo bp fu :: H) [(0, true), (1, true), (2, true), (3, true), (4, true), (5, false)] (by kernel_rfl) (by kernel_rfl) rfl (by kernel_rfl) (Subs.st inferInstance) (fun hns0 => ?_)
    refine DL_q hns0 rfl (Qt_move (.pointer _) rfl) rfl ?_
    refine DL_q hns0 rfl (Qt_nilCheck rfl) rfl ?_
    refine DL_q hns0 rfl (Qt_fieldAddr 3 rfl rfl) rfl ?_
    refine DL_q hns0 rfl (Qt_load1 rfl) rfl ?_
    refine DL_q hns0 rfl (Qt_loadN rfl rfl) rfl ?_
    have rvs : RdVs w0 (datV x19.2 [x19.1] :: H) [x19.1] := RdVs.own
    have rbz := rvs.b _ (List.mem_singleton.2 rfl)
    have rcz := rvs.c _ (List.mem_singleton.2 rfl)
    have rez := rvs.e _ (List.mem_singleton.2 rfl)
    refine DL_conv (fun w hw => (Subs.st inferInstance w hw : St w0 (BkS.H y bp (blk b4 (.cells x19.1.cells 44 (0, 0)) :: qblkO q sb p lo bp fu :: datV x19.2 [x19.1] :: H)) w)) ?_
    refine DL_e rfl rfl (Ef_call (take_c (p := bp) (y := y) (v := x19.1) hy (by rw [h19]; exact put_small hput)) rfl (fun x29 => ⟨(Subs.st inferInstance), ?_⟩))
    refine DL_pure (fun h29 => ?_)
    rw [h19] at h29
    refine DL_nil ?_
    refine X_block ?_
    exact X_ret x29 [] Tryz.results29 trivial rfl (fun w hw => (Subs.st inferInstance w hw : St w0 (qblkO q sb p lo bp fu :: BkS.H x29 bp H) w).addPure h29)
set_option maxHeartbeats 1000000 in
theorem loadN_c {w0 : World} {H : List SA} {p : Nat} {s : DS} {M K : Nat} (hok : s.Ok M K) (hM : M ≤ 1000000) (hK : K ≤ 1000000000) (he : hasE s.e2 stB = false) :
    CT Tryz.prog w0 (DS.H p s H) 26 [.pointer (some ⟨p, 0, none⟩), .string stB] (α := Unit) (fun _ => .tuple #[.slice none 0 0, .int .i64 13]) (fun _ => DS.H p s H) := by
  refine CT_intro Tryz.func26 rfl Tryz.ntmps26 rfl ?_
  refine T_seq ?_
  refine T_region ?_
  refine TL_q (Qt_assign (.slice _ _ _) rfl) rfl ?_
  refine TL_q (Qt_assign (.int .i64 _) rfl) rfl ?_
  refine TL_nil ?_
  refine X_then ?_
  refine T_seq ?_
  refine T_seq ?_
  refine T_region ?_
  refine TL_q (Qt_move (.pointer _) rfl) rfl ?_
  refine TL_q (Qt_move (.string _) rfl) rfl ?_
  refine TL_e rfl (Ef_call (asked_c) rfl (fun x13 => ?_))
  refine TL_q (Qt_assign (.int .i64 _) rfl) rfl ?_
  refine TL_nil ?_
  refine X_then ?_
  refine T_seq ?_
  refine T_region ?_
  refine TL_q (Qt_move (.int .i64 _) rfl) rfl ?_
  refine TL_q (Qt_neq rfl rfl) rfl ?_
  refine TL_nil ?_
  refine X_then ?_
  refine T_cond_false rfl (by first | rfl | decide) ?_
  refine T_skip ?_
  refine X_then ?_
  refine T_seq ?_
  refine T_region ?_
  refine TL_q (Qt_move (.pointer _) rfl) rfl ?_
  refine TL_q (Qt_move (.string _) rfl) rfl ?_
  refine TL_e rfl (Ef_call (dread_c (p := p) (s := s) hok hM (by omega) (nm := stB)) rfl (fun x20 => ?_))
  rw [he, if_neg (by decide)]
  refine TL_q (Qt_move (.tuple _) rfl) rfl ?_
  refine TL_q (Qt_extract rfl) rfl ?_
  refine TL_q (Qt_extract rfl) rfl ?_
  refine TL_q (Qt_assign (.slice _ _ _) rfl) rfl ?_
  refine TL_q (Qt_assign (.int .i64 _) rfl) rfl ?_
  refine TL_nil ?_
  refine X_then ?_
  refine T_seq ?_
  refine T_seq ?_
  refine T_region ?_
  refine TL_q (Qt_move (.int .i64 _) rfl) rfl ?_
  refine TL_q (Qt_neq rfl rfl) rfl ?_
  refine TL_nil ?_
  refine X_then ?_
  refine T_cond_true rfl (by first | rfl | decide) ?_
  refine T_seq ?_
  refine T_region ?_
  refine TL_q (Qt_move (.int .i64 _) rfl) rfl ?_
  refine TL_q (Qt_assign (.slice _ _ _) rfl) rfl ?_
  refine TL_q (Qt_assign (.int .i64 _) rfl) rfl ?_
  refine TL_nil ?_
  refine X_then ?_
  refine T_ret ?_
  refine X_then_ret ?_
  exact X_ret () [_, _] Tryz.results26 ⟨rfl, rfl, trivial⟩ rfl (Subs.st inferInstance)
structure SoR where
  q : Nat
  sb : Nat
  bp : Nat
  lp : Nat
  qt : Option Addr
  lo : Option Addr
  st : AC
  t : LS
  s : DS
  y : BkS
  e : Int
def SopR (s : DS) (cf : Nat → List UInt8) (m : List Nat) (us : List VoteD) (M K : Nat) (z : SoR) : Prop :=
  z.s.Ok (M + 1100) K ∧ z.y.Ok ∧ ((z.e = 4 ∧ z.qt = none ∧ ∃ (k : Nat) (hk : k < m.length), (scanF (cf m[k]) (foldS cf (m.take k) Sc0).bg (foldS cf (m.take k) Sc0).nx).2.1 < (cf m[k]).length) ∨ (z.e = 0 ∧ z.qt = some ⟨z.q, 0, none⟩ ∧ z.lo = some ⟨z.lp, 0, none⟩ ∧ z.y.abs = takeAll us ∧ ∃ w : OpR, OpenR lgB s cf m M K w ∧ w.e = 0 ∧ w.s = z.s ∧ w.t = z.t))
set_option maxHeartbeats 1000000 in
theorem sopenX_c {w0 : World} {H : List SA} {p : Nat} {s : DS} {M K : Nat} (hok : s.Ok M K) (hM : M ≤ 800000) (hK : K ≤ 1000000000) (hK2 : 2000000 ≤ K) (hlv : Live s) (hst : hasE s.e2 stB = false) {num : Int} {mk : Nat} (hmk : mk < 65536) (hr : rightV num mk = true) (hkz : ∀ e ∈ s.e2, e.k.size ≤ maxLen) {nf : ByteArray → Nat} (hnum : ∀ nm ∈ (namesE s.e2), ∀ H2 : List SA, CT Tryz.prog w0 H2 62 [.string lgB, .string nm] (α := Unit) (fun _ => .int .i64 (nf nm : Int)) (fun _ => H2)) {m : List Nat} (hp : (colN nf (namesE s.e2)).Perm m) (hsrt : m.Pairwise (· < ·)) (h1 : ∀ n ∈ m, n < 100) (hnl : (namesE s.e2).length ≤ 1000) {cf : Nat → List UInt8} (hcf : ∀ n ∈ m, cont s.e2 (nmB lgB n) = some (cf n)) (hsz : ∀ n ∈ m, (cf n).length ≤ 2000000) (htot : ∀ k, (foldR cf (m.take k) Sc0).length ≤ 1000000) {vds : List VoteD} (hus : ∀ y : OpR, OpenR lgB s cf m M K y → y.e = 0 → y.all.map BS.l = vds.map recV) (hput : ∀ v ∈ vds, (putV v).2 = 0) (hul : vds.length ≤ 1000000) :
    CT Tryz.prog w0 (DS.H p s H) 7 [.pointer (some ⟨p, 0, none⟩), .agg (ViewV.mk num (mk : Int)).cells] (α := SoR) (fun z => .tuple #[.pointer z.qt, .int .i64 z.e]) (fun z => pu (SopR s cf m vds M K z) :: qblkO z.q z.sb p z.lo z.bp false :: blk z.sb (.cells (stateF num (mk : Int) z.st).cells 86 (0, 0)) :: lblk z.lp p lgB z.t :: lrow z.t :: BkS.H z.y z.bp (DS.H p z.s H)) := by
  refine CT_intro Tryz.func7 rfl Tryz.ntmps7 rfl ?_
  refine T_seq ?_
  refine T_region ?_
  refine TL_e rfl (Ef_boxN rfl (fun b3 => ?_))
  refine TL_q (Qt_assign (.pointer _) rfl) rfl ?_
  refine TL_q (Qt_assign (.int .i64 _) rfl) rfl ?_
  refine TL_nil ?_
  refine X_then ?_
  refine T_seq ?_
  refine T_block ?_
  refine T_seq ?_
  refine T_region ?_
  refine TL_q (Qt_move (.pointer _) rfl) rfl ?_
  refine TL_q (Qt_ptr_nil rfl rfl Tryz.underlying28) rfl ?_
  refine TL_q (Qt_assign (.bool _) rfl) rfl ?_
  refine TL_nil ?_
  refine X_then ?_
  refine T_cond_false rfl (by first | rfl | decide) ?_
  refine T_seq ?_
  refine T_region ?_
  refine TL_q (Qt_loadN rfl rfl) rfl ?_
  refine TL_e rfl (Ef_call (right_v hmk) rfl (fun x18 => ?_))
  rw [hr]
  refine TL_q (Qt_not rfl) rfl ?_
  refine TL_q (Qt_assign (.bool _) rfl) rfl ?_
  refine TL_nil ?_
  refine X_then ?_
  refine T_cond_false rfl (by first | rfl | decide) ?_
  refine T_skip ?_
  refine X_block ?_
  refine X_then ?_
  refine T_seq ?_
  refine T_region ?_
  refine TL_q (Qt_move (.pointer _) rfl) rfl ?_
  refine TL_e rfl (Ef_call (new_c) rfl (fun x21 => ?_))
  refine TL_q (Qt_build [(1, (.pointer _)), (3, (.pointer _))] rfl (by kernel_rfl)) rfl ?_
  refine TL_e rfl (Ef_boxN rfl (fun b23 => ?_))
  refine TL_q (Qt_assign (.pointer _) rfl) rfl ?_
  refine TL_nil ?_
  refine X_then ?_
  refine T_seq ?_
  refine T_region ?_
  refine TL_q (Qt_loadN rfl rfl) rfl ?_
  refine TL_e rfl (Ef_call (first_c) rfl (fun x25 => ?_))
  refine TL_q (Qt_build [] rfl (by kernel_rfl)) rfl ?_
  refine TL_e rfl (Ef_call (from_c hmk) rfl (fun x27 => ?_))
  refine TL_e rfl (Ef_allocN (fun b7 => ?_))
  refine TL_n (Ef_storeN rfl rfl (?_))
  refine TL_nil ?_
  refine X_then ?_
  refine T_seq ?_
  refine T_region ?_
  refine TL_q (Qt_move (.pointer _) rfl) rfl ?_
  refine TL_conv (fun w hw => (Subs.st inferInstance w hw : St w0 (DS.H p s (blk b7 (.cells (stateF num (mk : Int) x27).cells 86 (0, 0)) :: blk b23 (.cells (StoreV.mk none (some ⟨p, 0, none⟩) none (some ⟨x21.1, 0, none⟩) false).cells 80 (0, 0)) :: BkS.H (BkS.made x21.2) x21.1 H)) w)) ?_
  refine TL_e rfl (Ef_call (loadN_c (p := p) (s := s) hok (by omega) hK hst) rfl (fun x30 => ?_))
  refine TL_q (Qt_move (.tuple _) rfl) rfl ?_
  refine TL_q (Qt_extract rfl) rfl ?_
  refine TL_q (Qt_extract rfl) rfl ?_
  refine TL_q (Qt_assign (.slice _ _ _) rfl) rfl ?_
  refine TL_q (Qt_assign (.int .i64 _) rfl) rfl ?_
  refine TL_nil ?_
  refine X_then ?_
  refine T_seq ?_
  refine T_seq ?_
  refine T_region ?_
  refine TL_q (Qt_move (.int .i64 _) rfl) rfl ?_
  refine TL_q (Qt_eql rfl rfl) rfl ?_
  refine TL_nil ?_
  refine X_then ?_
  refine T_cond_false rfl (by first | rfl | decide) ?_
  refine T_skip ?_
  refine X_then ?_
  refine T_seq ?_
  refine T_seq ?_
  refine T_region ?_
  refine TL_q (Qt_move (.int .i64 _) rfl) rfl ?_
  refine TL_q (Qt_neq rfl rfl) rfl ?_
  refine TL_q (Qt_move (.bool _) rfl) rfl ?_
  refine TL_split 42 rfl (fun h42 => ?_) (fun h42 => ?_)
  ·
    have p42 := h42
    try simp only [decide_eq_true_eq, decide_eq_false_iff_not, Bool.not_eq_true', Bool.not_eq_false', Option.isNone_iff_eq_none, ne_eq, Decidable.not_not, Int.not_lt, Int.not_le] at p42
    refine TL_take rfl rfl h42 ?_
    refine TL_q (Qt_move (.int .i64 _) rfl) rfl ?_
    refine TL_take rfl rfl h42 ?_
    refine TL_q (Qt_neq rfl rfl) rfl ?_
    refine TL_q (Qt_pick_t (.bool _) rfl h42 rfl) rfl ?_
    refine TL_nil ?_
    refine X_then ?_
    refine T_cond_false rfl (by first | rfl | decide) ?_
    refine T_skip ?_
    refine X_then ?_
    refine T_seq ?_
    refine T_region ?_
    refine TL_q (Qt_move (.pointer _) rfl) rfl ?_
    refine TL_q (Qt_nilCheck rfl) rfl ?_
    refine TL_q (Qt_fieldAddr 0 rfl rfl) rfl ?_
    refine TL_n (Ef_store1 (.pointer _) rfl rfl (?_))
    refine TL_nil ?_
    refine X_then ?_
    refine T_seq ?_
    refine T_region ?_
    refine TL_q (Qt_assign (.slice _ _ _) rfl) rfl ?_
    refine TL_nil ?_
    refine X_then ?_
    refine T_seq ?_
    refine T_seq ?_
    refine T_region ?_
    refine TL_q (Qt_move (.pointer _) rfl) rfl ?_
    refine TL_q (Qt_move (.pointer _) rfl) rfl ?_
    refine TL_conv (fun w hw => (Subs.st inferInstance w hw : St w0 (DS.H p s (blk b7 (.cells (stateF num (mk : Int) x27).cells 86 (0, 0)) :: blk b23 (.cells (StoreV.mk (some ⟨b7, 0, none⟩) (some ⟨p, 0, none⟩) none (some ⟨x21.1, 0, none⟩) false).cells 80 (0, 0)) :: BkS.H (BkS.made x21.2) x21.1 H)) w)) ?_
    refine TL_e rfl (Ef_call (openX_c (p := p) (s := s) hok hM hK hK2 hlv (pre := lgB) (by decide) (by show 3 ≤ maxLen; unfold maxLen; omega) fineL3 hkz hnum hp hsrt h1 hnl hcf hsz htot) rfl (fun x53 => ?_))
    refine TL_pure (fun h53 => ?_)
    refine TL_q (Qt_move (.tuple _) rfl) rfl ?_
    refine TL_q (Qt_extract rfl) rfl ?_
    refine TL_q (Qt_extract rfl) rfl ?_
    refine TL_q (Qt_extract rfl) rfl ?_
    refine TL_q (Qt_nilCheck rfl) rfl ?_
    refine TL_q (Qt_fieldAddr 2 rfl rfl) rfl ?_
    refine TL_n (Ef_store1 (.pointer _) rfl rfl (?_))
    refine TL_q (Qt_assign (.slice _ _ _) rfl) rfl ?_
    refine TL_q (Qt_assign (.int .i64 _) rfl) rfl ?_
    refine TL_nil ?_
    refine X_then ?_
    refine T_seq ?_
    refine T_region ?_
    refine TL_q (Qt_move (.int .i64 _) rfl) rfl ?_
    refine TL_q (Qt_neq rfl rfl) rfl ?_
    refine TL_nil ?_
    refine X_then ?_
    refine T_cond rfl (fun h60 => ?_) (fun h60 => ?_)
    ·
      have p60 := h60
      try simp only [decide_eq_true_eq, decide_eq_false_iff_not, Bool.not_eq_true', Bool.not_eq_false', Option.isNone_iff_eq_none, ne_eq, Decidable.not_not, Int.not_lt, Int.not_le] at p60
      obtain ⟨hokz, hz⟩ := h53
      obtain ⟨he0, -⟩ | ⟨he4, hpt, htr⟩ := hz.symm
      · exact absurd he0 p60
      refine T_seq ?_
      refine T_region ?_
      refine TL_q (Qt_move (.int .i64 _) rfl) rfl ?_
      refine TL_q (Qt_assign (.pointer _) rfl) rfl ?_
      refine TL_q (Qt_assign (.int .i64 _) rfl) rfl ?_
      refine TL_nil ?_
      refine X_then ?_
      refine T_ret ?_
      refine X_then_ret ?_
      exact X_ret (⟨b23, b7, x21.1, x53.lp, none, x53.pt, x27, x53.t, x53.s, (BkS.made x21.2), x53.e⟩ : SoR) [_, _] Tryz.results7 ⟨rfl, rfl, trivial⟩ rfl (fun w hw => (Subs.st inferInstance w hw : St w0 (qblkO b23 b7 p x53.pt x21.1 false :: blk b7 (.cells (stateF num (mk : Int) x27).cells 86 (0, 0)) :: lblk x53.lp p lgB x53.t :: lrow x53.t :: BkS.H (BkS.made x21.2) x21.1 (DS.H p x53.s H)) w).addPure (⟨hokz, BkS.made_ok _, .inl ⟨he4, rfl, htr⟩⟩))
    ·
      have p60 := h60
      try simp only [decide_eq_true_eq, decide_eq_false_iff_not, Bool.not_eq_true', Bool.not_eq_false', Option.isNone_iff_eq_none, ne_eq, Decidable.not_not, Int.not_lt, Int.not_le] at p60
      have he0 : x53.e = 0 := by omega
      have hall := hus x53 h53 he0
      have hlen := congrArg List.length hall
      rw [List.length_map, List.length_map] at hlen
      have hptl : x53.pt = some ⟨x53.lp, 0, none⟩ := by
        obtain ⟨-, ⟨he4, -⟩ | ⟨-, hpt, -⟩⟩ := h53
        · omega
        · exact hpt
      refine T_skip ?_
      refine X_then ?_
      refine T_seq ?_
      refine T_seq ?_
      refine T_region ?_
      refine TL_q (Qt_move (.slice _ _ _) rfl) rfl ?_
      refine TL_q (Qt_len_slice rfl Tryz.underlying42) rfl ?_
      refine TL_q (Qt_move (.int .i64 _) rfl) rfl ?_
      refine TL_nil ?_
      refine X_then ?_
      refine T_block ?_
      refine T_loop [12, 64, 65, 66, 67, 68, 69, 70, 71] [64] (fun us H' => ∃ (k : Nat) (yk : BkS), us = [.int .i64 (k : Int)] ∧ qblkO b23 b7 p x53.pt x21.1 false :: BkS.H yk x21.1 (row (.slice x53.a x53.all.length x53.c) 41 1 (x53.all.map BS.val) :: dat x53.fp ⟨x53.all, [], []⟩ :: blk b7 (.cells (stateF num (mk : Int) x27).cells 86 (0, 0)) :: lblk x53.lp p lgB x53.t :: lrow x53.t :: DS.H p x53.s H) = H' ∧ k ≤ x53.all.length ∧ (yk.Ok) ∧ (yk.abs = takeAll (vds.take k))) (fun us => match us with | .int _ i :: _ => x53.all.length - i.toNat | _ => 0) ⟨0, (BkS.made x21.2), rfl, rfl, by omega, BkS.made_ok _, by rw [List.take_zero]; exact BkS.made_abs _⟩ (Subs.st inferInstance) ?_
      rintro τ0 _ _  ⟨k, yk, rfl, rfl, hk0, hyk, hya⟩ _
      refine T_seq ?_
      refine T_region ?_
      refine TL_q (Qt_lss rfl rfl) rfl ?_
      refine TL_nil ?_
      refine X_then ?_
      refine T_seq ?_
      refine T_cond rfl (fun h65 => ?_) (fun h65 => ?_)
      ·
        have p65 := h65
        try simp only [decide_eq_true_eq, decide_eq_false_iff_not, Bool.not_eq_true', Bool.not_eq_false', Option.isNone_iff_eq_none, ne_eq, Decidable.not_not, Int.not_lt, Int.not_le] at p65
        have hk : k < x53.all.length := by omega
        have hku : k < vds.length := by omega
        have hbk : x53.all[k].l = recV vds[k] := by
          have h := congrArg (fun l => l[k]?) hall
          simp only [List.getElem?_map, List.getElem?_eq_getElem hk, List.getElem?_eq_getElem hku, Option.map_some] at h
          exact Option.some.inj h
        refine T_skip ?_
        refine X_then ?_
        refine T_seq ?_
        refine T_block ?_
        refine T_seq ?_
        refine T_region ?_
        refine TL_q (Qt_indexR rfl rfl (by omega) (by rw [List.length_map]; omega)) rfl ?_
        refine TL_q (Qt_loadR (.slice _ _ _) rfl (vals_get _ _ hk)) rfl ?_
        refine TL_q (Qt_assign (.slice _ _ _) rfl) rfl ?_
        refine TL_nil ?_
        refine X_then ?_
        refine T_region ?_
        refine TL_q (Qt_move (.pointer _) rfl) rfl ?_
        refine TL_q (Qt_move (.slice _ _ _) rfl) rfl ?_
        have rbk : RdB w0 (dat x53.fp ⟨x53.all, [], []⟩ :: blk b7 (.cells (stateF num (mk : Int) x27).cells 86 (0, 0)) :: lblk x53.lp p lgB x53.t :: lrow x53.t :: DS.H p x53.s H) (.slice x53.all[k].a x53.all[k].l.length x53.all[k].c) x53.all[k].l := RdE.get (ls := x53.all) inferInstance (List.getElem_mem hk)
        refine TL_e rfl (Ef_call (replayV_c (q := b23) (sb := b7) (p := p) (bp := x21.1) (lo := x53.pt) (fu := false) (y := yk) hyk (b := x53.all[k]) (v := vds[k]) hbk (hput _ (List.getElem_mem hku))) rfl (fun x70 => ?_))
        refine TL_pure (fun h70 => ?_)
        refine TL_nil ?_
        refine X_block ?_
        refine X_then ?_
        refine T_region ?_
        first
          | refine TL_q (Qt_add rfl rfl (by omega) (by omega)) rfl ?_
          | refine TL_q (Qt_addw rfl rfl) rfl ?_
        refine TL_q (Qt_move (.int .i64 _) rfl) rfl ?_
        refine TL_nil ?_
        apply X_loop
        case ha => exact (by repeat (first | with_reducible exact agree_refl | refine agree_upd rfl ?_ | refine agree_mix rfl ?_ | refine agree_setAll rfl ?_))
        case hI => exact ⟨k + 1, x70, rfl, rfl, by omega, h70.1, by rw [h70.2, hya, takeAll_step vds k hku]⟩
        case hm => exact by show x53.all.length - (k + 1 : Int).toNat < x53.all.length - (k : Int).toNat; omega
        case hH => exact (Subs.st inferInstance)
      ·
        have p65 := h65
        try simp only [decide_eq_true_eq, decide_eq_false_iff_not, Bool.not_eq_true', Bool.not_eq_false', Option.isNone_iff_eq_none, ne_eq, Decidable.not_not, Int.not_lt, Int.not_le] at p65
        obtain rfl : k = x53.all.length := by omega
        rw [hlen, List.take_length] at hya
        refine T_exit ?_
        refine X_then_exit ?_
        refine X_loop_exit ?_
        refine X_block_exit ?_
        refine X_then ?_
        refine T_seq ?_
        refine T_region ?_
        refine TL_q (Qt_move (.pointer _) rfl) rfl ?_
        refine TL_q (Qt_assign (.pointer _) rfl) rfl ?_
        refine TL_q (Qt_assign (.int .i64 _) rfl) rfl ?_
        refine TL_nil ?_
        refine X_then ?_
        refine T_ret ?_
        exact X_ret (⟨b23, b7, x21.1, x53.lp, (some ⟨b23, 0, none⟩), x53.pt, x27, x53.t, x53.s, yk, 0⟩ : SoR) [_, _] Tryz.results7 ⟨rfl, rfl, trivial⟩ rfl (fun w hw => (Subs.st inferInstance w hw : St w0 (qblkO b23 b7 p x53.pt x21.1 false :: blk b7 (.cells (stateF num (mk : Int) x27).cells 86 (0, 0)) :: lblk x53.lp p lgB x53.t :: lrow x53.t :: BkS.H yk x21.1 (DS.H p x53.s H)) w).addPure (⟨h53.1, hyk, .inr ⟨rfl, rfl, hptl, hya, x53, h53, he0, rfl, rfl⟩⟩))
  ·
    have p42 := h42
    try simp only [decide_eq_true_eq, decide_eq_false_iff_not, Bool.not_eq_true', Bool.not_eq_false', Option.isNone_iff_eq_none, ne_eq, Decidable.not_not, Int.not_lt, Int.not_le] at p42
    exact absurd h42 (by decide)
set_option maxHeartbeats 1000000 in
theorem sreg_c {w0 : World} {H : List SA} {q sb p bp : Nat} {lo : Option Addr} {fu : Bool} {y : BkS} :
    CT Tryz.prog w0 (qblkO q sb p lo bp fu :: BkS.H y bp H) 14 [.pointer (some ⟨q, 0, none⟩)] (α := Unit) (fun _ => .tuple #[.int .i64 y.k.now.view, .int .i64 y.k.now.reg]) (fun _ => qblkO q sb p lo bp fu :: BkS.H y bp H) := by
  refine CT_intro Tryz.func14 rfl Tryz.ntmps14 rfl ?_
  refine T_seq ?_
  refine T_region ?_
  refine TL_q (Qt_assign (.int .i64 _) rfl) rfl ?_
  refine TL_q (Qt_assign (.int .i64 _) rfl) rfl ?_
  refine TL_nil ?_
  refine X_then ?_
  refine T_seq ?_
  refine T_seq ?_
  refine T_region ?_
  refine TL_q (Qt_move (.pointer _) rfl) rfl ?_
  refine TL_q (Qt_ptr_nil rfl rfl Tryz.underlying30) rfl ?_
  refine TL_nil ?_
  refine X_then ?_
  refine T_cond_false rfl (by first | rfl | decide) ?_
  refine T_skip ?_
  refine X_then ?_
  refine T_seq ?_
  refine T_region ?_
  refine TL_q (Qt_move (.pointer _) rfl) rfl ?_
  refine TL_q (Qt_nilCheck rfl) rfl ?_
  refine TL_q (Qt_fieldAddr 3 rfl rfl) rfl ?_
  refine TL_q (Qt_load1 rfl) rfl ?_
  refine TL_frontB bp ?_
  refine TL_e rfl (Ef_call (reg_c (p := bp) (k := y.k)) rfl (fun x10 => ?_))
  refine TL_q (Qt_extract rfl) rfl ?_
  refine TL_q (Qt_extract rfl) rfl ?_
  refine TL_q (Qt_assign (.int .i64 _) rfl) rfl ?_
  refine TL_q (Qt_assign (.int .i64 _) rfl) rfl ?_
  refine TL_nil ?_
  refine X_then ?_
  refine T_ret ?_
  exact X_ret () [_, _] Tryz.results14 ⟨rfl, rfl, trivial⟩ rfl (Subs.st inferInstance)
set_option maxHeartbeats 1000000 in
theorem svotes_c {w0 : World} {H : List SA} {q sb p bp : Nat} {lo : Option Addr} {fu : Bool} {y : BkS} (ho : y.Ok) (hin : ∀ e ∈ y.es, e.k ∈ grid) (hne : y.es.length ≤ 1000) :
    CT Tryz.prog w0 (qblkO q sb p lo bp fu :: BkS.H y bp H) 19 [.pointer (some ⟨q, 0, none⟩)] (α := AC × List VoteV × List Nat × List VoteV) (fun z => .slice z.1.a z.2.1.length z.1.c) (fun z => pu (AllB y z.2.1 z.2.2.2) :: row (.slice z.1.a (z.2.1).length z.1.c) 44 38 ((z.2.1).flatMap VoteV.list) :: datV z.2.2.1 z.2.2.2 :: qblkO q sb p lo bp fu :: BkS.H y bp H) := by
  refine CT_intro Tryz.func19 rfl Tryz.ntmps19 rfl ?_
  refine T_seq ?_
  refine T_region ?_
  refine TL_q (Qt_assign (.slice _ _ _) rfl) rfl ?_
  refine TL_nil ?_
  refine X_then ?_
  refine T_seq ?_
  refine T_seq ?_
  refine T_region ?_
  refine TL_q (Qt_move (.pointer _) rfl) rfl ?_
  refine TL_q (Qt_ptr_nil rfl rfl Tryz.underlying30) rfl ?_
  refine TL_nil ?_
  refine X_then ?_
  refine T_cond_false rfl (by first | rfl | decide) ?_
  refine T_skip ?_
  refine X_then ?_
  refine T_seq ?_
  refine T_region ?_
  refine TL_q (Qt_move (.pointer _) rfl) rfl ?_
  refine TL_q (Qt_nilCheck rfl) rfl ?_
  refine TL_q (Qt_fieldAddr 3 rfl rfl) rfl ?_
  refine TL_q (Qt_load1 rfl) rfl ?_
  refine TL_conv (fun w hw => (Subs.st inferInstance w hw : St w0 (BkS.H y bp (qblkO q sb p lo bp fu :: H)) w)) ?_
  refine TL_e rfl (Ef_call (all_c (p := bp) (y := y) ho hin hne) rfl (fun x9 => ?_))
  refine TL_pure (fun h9 => ?_)
  refine TL_q (Qt_assign (.slice _ _ _) rfl) rfl ?_
  refine TL_nil ?_
  refine X_then ?_
  refine T_ret ?_
  exact X_ret x9 [_] Tryz.results19 ⟨rfl, trivial⟩ rfl (fun w hw => (Subs.st inferInstance w hw : St w0 (row (.slice x9.1.a (x9.2.1).length x9.1.c) 44 38 ((x9.2.1).flatMap VoteV.list) :: datV x9.2.2.1 x9.2.2.2 :: qblkO q sb p lo bp fu :: BkS.H y bp H) w).addPure h9)
set_option maxHeartbeats 1000000 in
theorem swrote_c {w0 : World} {H : List SA} {q sb p bp : Nat} {lo : Option Addr} {fu : Bool} {y : BkS} (ho : y.Ok) {n view reg : Int} :
    CT Tryz.prog w0 (qblkO q sb p lo bp fu :: BkS.H y bp H) 16 [.pointer (some ⟨q, 0, none⟩), .int .i64 n, .int .i64 view, .int .i64 reg] (α := VoteV × List Nat) (fun z => .tuple #[.agg z.1.cells, .bool (decide (y.k.slot = n) && (hasE y.es ⟨view, reg⟩))]) (fun z => pu (z.1.abs = (if y.k.slot = n then ((getE y.es ⟨view, reg⟩).getD VoteV.zero).abs else VoteV.zero.abs)) :: datV z.2 [z.1] :: qblkO q sb p lo bp fu :: BkS.H y bp H) := by
  refine CT_intro Tryz.func16 rfl Tryz.ntmps16 rfl ?_
  refine T_seq ?_
  refine T_region ?_
  refine TL_e rfl (Ef_allocN (fun b8 => ?_))
  refine TL_q (Qt_assign (.bool _) rfl) rfl ?_
  refine TL_nil ?_
  refine X_then ?_
  refine T_seq ?_
  refine T_seq ?_
  refine T_region ?_
  refine TL_q (Qt_move (.pointer _) rfl) rfl ?_
  refine TL_q (Qt_ptr_nil rfl rfl Tryz.underlying30) rfl ?_
  refine TL_q (Qt_move (.bool _) rfl) rfl ?_
  refine TL_split 12 rfl (fun h12 => ?_) (fun h12 => ?_)
  ·
    have p12 := h12
    try simp only [decide_eq_true_eq, decide_eq_false_iff_not, Bool.not_eq_true', Bool.not_eq_false', Option.isNone_iff_eq_none, ne_eq, Decidable.not_not, Int.not_lt, Int.not_le] at p12
    cases h12
  ·
    have p12 := h12
    try simp only [decide_eq_true_eq, decide_eq_false_iff_not, Bool.not_eq_true', Bool.not_eq_false', Option.isNone_iff_eq_none, ne_eq, Decidable.not_not, Int.not_lt, Int.not_le] at p12
    refine TL_take rfl rfl h12 ?_
    refine TL_q (Qt_move (.pointer _) rfl) rfl ?_
    refine TL_take rfl rfl h12 ?_
    refine TL_q (Qt_nilCheck rfl) rfl ?_
    refine TL_take rfl rfl h12 ?_
    refine TL_q (Qt_fieldAddr 3 rfl rfl) rfl ?_
    refine TL_take rfl rfl h12 ?_
    refine TL_q (Qt_load1 rfl) rfl ?_
    refine TL_frontB bp ?_
    refine TL_take rfl rfl h12 ?_
    refine TL_e rfl (Ef_call (slot_c (p := bp) (k := y.k)) rfl (fun x17 => ?_))
    refine TL_take rfl rfl h12 ?_
    refine TL_q (Qt_move (.int .i64 _) rfl) rfl ?_
    refine TL_take rfl rfl h12 ?_
    refine TL_q (Qt_neq rfl rfl) rfl ?_
    refine TL_q (Qt_pick_f (.bool _) rfl h12 rfl) rfl ?_
    refine TL_nil ?_
    refine X_then ?_
    refine T_cond rfl (fun h20 => ?_) (fun h20 => ?_)
    ·
      have p20 := h20
      try simp only [decide_eq_true_eq, decide_eq_false_iff_not, Bool.not_eq_true', Bool.not_eq_false', Option.isNone_iff_eq_none, ne_eq, Decidable.not_not, Int.not_lt, Int.not_le] at p20
      have e1 : decide (y.k.slot = n) = false := decide_eq_false p20
      refine T_seq ?_
      refine T_region ?_
      refine TL_q (Qt_build [] rfl (by kernel_rfl)) rfl ?_
      refine TL_n (Ef_storeN rfl rfl (?_))
      refine TL_q (Qt_assign (.bool _) rfl) rfl ?_
      refine TL_nil ?_
      refine X_then ?_
      refine T_ret ?_
      refine X_then_ret ?_
      exact X_ret (VoteV.zero, []) [_, _] Tryz.results16 ⟨⟨_, rfl, res_cellN rfl⟩, rfl, trivial⟩ (by rw [e1]; rfl) (fun w hw => (St.datZero (Subs.st inferInstance w hw : St w0 (qblkO q sb p lo bp fu :: BkS.H y bp H) w)).addPure (by rw [if_neg p20]))
    ·
      have p20 := h20
      try simp only [decide_eq_true_eq, decide_eq_false_iff_not, Bool.not_eq_true', Bool.not_eq_false', Option.isNone_iff_eq_none, ne_eq, Decidable.not_not, Int.not_lt, Int.not_le] at p20
      have e1 : decide (y.k.slot = n) = true := decide_eq_true p20
      refine T_skip ?_
      refine X_then ?_
      refine T_seq ?_
      refine T_region ?_
      refine TL_q (Qt_move (.pointer _) rfl) rfl ?_
      refine TL_q (Qt_nilCheck rfl) rfl ?_
      refine TL_q (Qt_fieldAddr 3 rfl rfl) rfl ?_
      refine TL_q (Qt_load1 rfl) rfl ?_
      refine TL_q (Qt_move (.int .i64 _) rfl) rfl ?_
      refine TL_q (Qt_move (.int .i64 _) rfl) rfl ?_
      refine TL_conv (fun w hw => (Subs.st inferInstance w hw : St w0 (BkS.H y bp (qblkO q sb p lo bp fu :: blk b8 (.cells VoteV.zero.cells 44 (0, 0)) :: H)) w)) ?_
      refine TL_e rfl (Ef_call (wrote_c (p := bp) (y := y) (view := view) (reg := reg) ho) rfl (fun x28 => ?_))
      refine TL_pure (fun h28 => ?_)
      refine TL_q (Qt_extract rfl) rfl ?_
      refine TL_q (Qt_extract rfl) rfl ?_
      refine TL_n (Ef_storeN rfl rfl (?_))
      refine TL_q (Qt_assign (.bool _) rfl) rfl ?_
      refine TL_nil ?_
      refine X_then ?_
      refine T_ret ?_
      exact X_ret x28 [_, _] Tryz.results16 ⟨⟨_, rfl, res_cellN rfl⟩, rfl, trivial⟩ (by rw [e1, Bool.true_and]; rfl) (fun w hw => (Subs.st inferInstance w hw : St w0 (datV x28.2 [x28.1] :: qblkO q sb p lo bp fu :: BkS.H y bp H) w).addPure (by rw [if_pos p20]; exact h28))
end
section
open Go.RowKit Go.Sx
set_option maxRecDepth 100000
set_option linter.unusedSimpArgs false
set_option linter.unusedVariables false
/-! ## Segments, gone through -/
theorem chL_take {fs : Nat → Nat} {rc : Nat → List (List UInt8)} : ∀ (ns : List Nat) (a b k : Nat), chL fs rc ns a b → ∃ b', chL fs rc (ns.take k) a b' ∧ b' ≤ b ∧ ∀ hk : k < ns.length, fs ns[k] = b'
 | [], a, b, k, h => ⟨a, by rw [List.take_nil]; rfl, Nat.le_of_eq h, fun hk => absurd hk (Nat.not_lt_zero k)⟩
 | n :: ns, a, b, 0, h => ⟨a, rfl, chL_le h, fun _ => h.1⟩
 | n :: ns, a, b, k + 1, h => by
  obtain ⟨b', h1, h2, h3⟩ := chL_take ns (a + (rc n).length) b k h.2
  exact ⟨b', ⟨h.1, h1⟩, h2, fun hk => h3 (by simpa using hk)⟩
theorem fold_ch {fs : Nat → Nat} {rc : Nat → List (List UInt8)} {cf tl : Nat → List UInt8} : ∀ (ns : List Nat) (x : Sc) (a b : Nat), chL fs rc ns a b → (x.bg = true → x.nx = a) → 1 ≤ a → b < 18446744073709551615 →
 (∀ n ∈ ns, cf n = recsB (fs n) (rc n) ++ tl n ∧ readE (tl n) = none) → (∀ n ∈ ns, ∀ l ∈ rc n, l.length ≤ 65536) → foldR cf ns x = ns.flatMap rc ∧ ((foldS cf ns x).bg = true → (foldS cf ns x).nx = b)
 | [], x, a, b, h, hx, _, _, _, _ => ⟨rfl, fun hb => (hx hb).trans h⟩
 | n :: ns, x, a, b, h, hx, ha, hb, hc, hs => by
  have hle := chL_le h.2
  obtain ⟨h1, h2⟩ := hc n (List.mem_cons_self ..)
  have e := scanF_torn (rc n) (fs n) x.bg x.nx (tl n) (by rw [h.1]; exact ha) (by rw [h.1]; omega) (hs n (List.mem_cons_self ..)) (by rw [h.1]; exact hx) h2
  rw [← h1] at e
  obtain ⟨i1, i2⟩ := fold_ch ns (scS x (cf n)) (a + (rc n).length) b h.2 (by
   unfold scS
   rw [e]
   show (if (rc n).length = 0 then x.bg else true) = true → (if (rc n).length = 0 then x.nx else fs n + (rc n).length) = a + (rc n).length
   by_cases h0 : (rc n).length = 0
   · rw [if_pos h0, if_pos h0, h0]; exact hx
   · rw [if_neg h0, if_neg h0, h.1]; exact fun _ => rfl) (by omega) hb (fun m hm => hc m (List.mem_cons_of_mem _ hm)) (fun m hm => hs m (List.mem_cons_of_mem _ hm))
  refine ⟨?_, i2⟩
  show (scanF (cf n) x.bg x.nx).1 ++ foldR cf ns (scS x (cf n)) = _
  rw [e, i1, List.flatMap_cons]
theorem mem_take {α : Type} {l : List α} {k : Nat} {x : α} (h : x ∈ l.take k) : x ∈ l := List.mem_of_mem_take h
theorem fold_at {fs : Nat → Nat} {rc : Nat → List (List UInt8)} {cf tl : Nat → List UInt8} {ns : List Nat} {a b : Nat} (h : chL fs rc ns a b) (ha : 1 ≤ a) (hb : b < 18446744073709551615) (hc : ∀ n ∈ ns, cf n = recsB (fs n) (rc n) ++ tl n ∧ readE (tl n) = none) (hs : ∀ n ∈ ns, ∀ l ∈ rc n, l.length ≤ 65536) (k : Nat) :
 foldR cf (ns.take k) Sc0 = (ns.take k).flatMap rc ∧ ∀ hk : k < ns.length, (scanF (cf ns[k]) (foldS cf (ns.take k) Sc0).bg (foldS cf (ns.take k) Sc0).nx).2.1 = (recsB (fs ns[k]) (rc ns[k])).length := by
 obtain ⟨b', h1, h2, h3⟩ := chL_take ns a b k h
 obtain ⟨i1, i2⟩ := fold_ch (cf := cf) (tl := tl) (ns.take k) Sc0 a b' h1 (fun h => by cases h) ha (by omega) (fun n hn => hc n (mem_take hn)) (fun n hn => hs n (mem_take hn))
 refine ⟨i1, fun hk => ?_⟩
 have hm := List.getElem_mem hk
 obtain ⟨e1, e2⟩ := hc _ hm
 have hbb := chL_bound h _ hm
 have e := scanF_torn (rc ns[k]) (fs ns[k]) (foldS cf (ns.take k) Sc0).bg (foldS cf (ns.take k) Sc0).nx (tl ns[k]) (by omega) (by omega) (hs _ hm) (fun hq => by rw [i2 hq, h3 hk]) e2
 rw [← e1] at e
 rw [e]
theorem recsB_le {B : Nat} (hB : B ≤ 4294967000) : ∀ (ls : List (List UInt8)) (n : Nat), n + ls.length < 18446744073709551616 → (∀ l ∈ ls, l.length ≤ B) → (recsB n ls).length ≤ (B + 28) * ls.length
 | [], n, _, _ => by simp [recsB]
 | l :: ls, n, hn, hl => by
  have h1 := (toldB_len n (by simp at hn; omega) l (by have := hl l (List.mem_cons_self ..); omega)).1
  have h2 := recsB_le hB ls (n + 1) (by simp at hn; omega) (fun x hx => hl x (List.mem_cons_of_mem _ hx))
  have h3 := hl l (List.mem_cons_self ..)
  simp only [recsB, List.length_append, List.length_cons]
  rw [Nat.mul_add, Nat.mul_one]; omega
theorem flat_memL (rc : Nat → List (List UInt8)) {m : List Nat} {n : Nat} (h : n ∈ m) : (rc n).length ≤ (m.flatMap rc).length := by
 induction m with
 | nil => cases h
 | cons x m ih =>
  rw [List.flatMap_cons, List.length_append]
  rcases List.mem_cons.1 h with rfl | h
  · omega
  · have := ih h; omega
/-- The number that a segment's name bears. -/
def nfB (pre nm : ByteArray) : Nat := ((List.range 100).find? fun n => decide (nm = nmB pre n)).getD 0
theorem nfB_nm {pre : ByteArray} {n : Nat} (hn : n < 100) : nfB pre (nmB pre n) = n := by
 unfold nfB
 rw [find_found (fun i => decide (nmB pre n = nmB pre i)) (List.range 100) n (by simpa using hn) (by
  rw [List.any_eq_false]
  intro i hi
  have hi2 : i < n := by
   have h1 := List.mem_take_iff_getElem.1 hi
   obtain ⟨j, hj, he⟩ := h1
   simp at he hj
   omega
  simp only [decide_eq_true_eq]
  intro he
  have := nm_inj hn (by omega) he
  omega) (by simp)]
 simp
/-! ## Votes -/
def recL (cl : List VoteV) : List (List UInt8) := cl.map fun v => recV v.abs
theorem takes_same (L : List VoteV) (h : ∀ i (hi : i < L.length), takeL (L.take i) L[i] = 0) : SameD (takeAll (L.map VoteV.abs)) L := by
 have hk : ∀ k, k ≤ L.length → SameD (takeAll ((L.map VoteV.abs).take k)) (L.take k) := by
  intro k
  induction k with
  | zero => intro _; rw [List.take_zero, List.take_zero]; exact SameD.start
  | succ k ih =>
   intro hk
   have h1 := take_same (v := L[k]) (ih (by omega))
   rw [h k (by omega)] at h1
   have h2 := h1.2.1 h1.1
   rw [takeAll_step _ _ (by simpa using (by omega : k < L.length)), List.take_succ_eq_append_getElem (by omega), List.getElem_map]
   exact h2
 have := hk L.length (Nat.le_refl _)
 rwa [List.take_length, List.take_of_length_le (by simp)] at this
theorem takeL_zero {cl : List VoteV} {v : VoteV} (hp : (putV v.abs).2 = 0) (hn : v.kind = 1 ∨ ¬ v.slot < slotL cl) : takeL cl v = 0 := by
 unfold takeL
 rw [if_neg (fun h => h hp), if_neg (by rintro ⟨h1, h2⟩; rcases hn with h | h; omega; exact h h2)]
theorem takeL_put {cl : List VoteV} {v : VoteV} (h : takeL cl v = 0) : (putV v.abs).2 = 0 := by
 refine Classical.byContradiction fun hn => ?_
 unfold takeL at h
 rw [if_pos hn] at h
 cases h
theorem takeL_new {cl : List VoteV} {v : VoteV} (h : takeL cl v = 0) : ¬ (1 < v.kind ∧ v.slot < slotL cl) := fun hn => by
 have hp := takeL_put h
 unfold takeL at h
 rw [if_neg (fun h => h hp), if_pos hn] at h
 cases h
theorem takes_snoc {cl : List VoteV} {v : VoteV} (h : ∀ i (hi : i < cl.length), takeL (cl.take i) cl[i] = 0) (hv : takeL cl v = 0) : ∀ i (hi : i < (cl ++ [v]).length), takeL ((cl ++ [v]).take i) (cl ++ [v])[i] = 0 := fun i hi => by
 by_cases hic : i < cl.length
 · rw [List.getElem_append_left hic, List.take_append_of_le_length (by omega)]; exact h i hic
 · obtain rfl : i = cl.length := by simp at hi; omega
   rw [List.getElem_append_right (Nat.le_refl _), List.take_left]
   simpa using hv
/-! ## What an append does, with any fuse -/
theorem DoR.any {s s' : DS} {a : ActV} {e : Int} (h : DoR s a s' e) {c : Nat} (hg : GoodM s.e2 c) :
 (e ≠ 0 ∧ s'.down = true ∧ s'.e1 = s.e1 ∧ s'.e2 = s.e2 ∧ s'.pend = s.pend) ∨ (e = 0 ∧ s'.down = false ∧ s'.e1 = s.e1 ∧ s'.pend = s.pend ++ [a] ∧ cont s'.e2 = doF (cont s.e2) a) := by
 rcases h with ⟨-, he, rfl⟩ | ⟨-, he, x, pa, pc, fp, hx, rfl⟩
 · exact .inl ⟨by rw [he]; decide, rfl, rfl, rfl, rfl⟩
 · exact .inr ⟨he, rfl, rfl, rfl, cont_doE hg hx _⟩
theorem AppR.any {k : Int} {less : Nat} {s s' : DS} {nm : ByteArray} {b : List UInt8} {e : Int} (h : AppR k less s nm b s' e) {c : Nat} (hg : GoodM s.e2 c) :
 (e ≠ 0 ∧ s'.e1 = s.e1 ∧ s'.e2 = s.e2 ∧ s'.pend = s.pend ∧ (s'.down = true ∨ s'.down = s.down)) ∨
 (e = 0 ∧ s.down = false ∧ s'.down = false ∧ s'.e1 = s.e1 ∧ ∃ cl : BS, cl.l = b ∧ s'.pend = s.pend ++ [⟨k, nm, ⟨#[]⟩, cl⟩] ∧ cont s'.e2 = doF (cont s.e2) ⟨k, nm, ⟨#[]⟩, cl⟩) := by
 rcases h with ⟨-, he, rfl⟩ | ⟨-, -, he, rfl⟩ | ⟨-, -, -, he, rfl⟩ | ⟨hd, -, -, cl, fp, hcl, hdo⟩
 · exact .inl ⟨by rw [he]; decide, rfl, rfl, rfl, .inr rfl⟩
 · exact .inl ⟨by rw [he]; decide, rfl, rfl, rfl, .inr rfl⟩
 · exact .inl ⟨by rw [he]; decide, rfl, rfl, rfl, .inr rfl⟩
 · rcases hdo.any (c := c) hg with ⟨h1, h2, h3, h4, h5⟩ | ⟨h1, h2, h3, h4, h5⟩
   · exact .inl ⟨h1, h3, h4, h5, .inl h2⟩
   · exact .inr ⟨h1, hd, h2, h3, cl, hcl, h4, h5⟩
theorem AppendR.any {s s' : DS} {t t' : LS} {r : List UInt8} {e : Int} (h : AppendR lgB s t r s' t' e) (hr : r.length ≤ 40000) (hnx : t.nx ≤ 1000000) (hsz : t.siz ≤ 100000) {c : Nat} (hg : GoodM s.e2 c) :
 (e ≠ 0 ∧ t' = t ∧ s'.e1 = s.e1 ∧ s'.e2 = s.e2 ∧ s'.pend = s.pend ∧ (s'.down = true ∨ s'.down = s.down)) ∨
 (e = 0 ∧ s.down = false ∧ s'.down = false ∧ s'.e1 = s.e1 ∧ t'.nx = t.nx + 1 ∧ t'.siz ≤ 100000 ∧ ∃ a, IsAct lgB t.segs t.nx a r ∧ s'.pend = s.pend ++ [a] ∧ cont s'.e2 = doF (cont s.e2) a ∧ t'.segs = (if a.kind = 1 then t.segs else t.segs ++ [newN t.segs])) := by
 have htl := (toldB_len t.nx (by omega) r (by omega)).1
 rcases h with ⟨-, hb, h1, h2⟩ | ⟨h0, ha, h1, h2⟩
 · rw [recs_one] at hb
   rcases hb.any hg with ⟨q1, q2, q3, q4, q5⟩ | ⟨q1, q2, q3, q4, cl, q5, q6, q7⟩
   · exact .inl ⟨q1, h1 q1, q2, q3, q4, q5⟩
   · obtain ⟨g1, g2, g3, -⟩ := h2 q1
     rw [recs_one] at g2
     exact .inr ⟨q1, q2, q3, q4, g3, by omega, _, .inr ⟨rfl, rfl, q5⟩, q6, q7, by rw [g1, if_neg (show ¬ ((2 : Int) = 1) by decide)]⟩
 · rcases ha.any hg with ⟨q1, q2, q3, q4, q5⟩ | ⟨q1, q2, q3, q4, cl, q5, q6, q7⟩
   · exact .inl ⟨q1, h1 q1, q2, q3, q4, q5⟩
   · obtain ⟨g1, g2, g3, -⟩ := h2 q1
     have h3 : ¬ 2048 ≤ t.siz := fun h => h0 (.inr h)
     exact .inr ⟨q1, q2, q3, q4, g3, by omega, _, .inl ⟨fun h => h0 (.inl h), rfl, rfl, q5⟩, q6, q7, by rw [g1, if_pos (show ((1 : Int) = 1) from rfl)]⟩
/-! ## The store, vote by vote -/
def LgS (s : DS) (t : LS) (cl : List VoteV) (k : Nat) : Prop :=
 (s.down = false ∧ s.pend = [] ∧ cont s.e2 = cont s.e1 ∧ ∃ fs rc, LogF lgB (cont s.e1) t.segs fs rc [] (recL cl) t.nx) ∨
 (s.down = true ∧ ∃ ex : Option VoteV, Hurt lgB s (recL cl) (ex.map fun v => recV v.abs) k ∧ ∀ v, ex = some v → takeL cl v = 0 ∧ (putV v.abs).1.length ≤ 30000)
theorem Hurt.mono {pre : ByteArray} {s s' : DS} {all : List (List UInt8)} {ex : Option (List UInt8)} {B B' : Nat} (h : Hurt pre s all ex B) (hB : B ≤ B') (h1 : s'.e1 = s.e1) (h2 : s'.pend = s.pend) : Hurt pre s' all ex B' := by
 obtain ⟨segs, fs, rc, nx, q1, q2, q3, q4, q5⟩ := h
 exact ⟨segs, fs, rc, nx, by rw [h1]; exact q1, by omega, by omega, by omega, by rw [h2]; exact q5⟩
structure VI (s : DS) (t : LS) (y : BkS) (cl : List VoteV) (k : Nat) : Prop where
 lg : LgS s t cl k
 yok : y.Ok
 same : SameD y.abs cl
 came : ∀ i (hi : i < cl.length), takeL (cl.take i) cl[i] = 0
 seg : t.segs.length ≤ k
 last : lastN t.segs ≤ k
 siz : t.siz ≤ 100000
 nx : t.nx ≤ 1 + k
 len : cl.length ≤ k
 short : ∀ v ∈ cl, (putV v.abs).1.length ≤ 30000
theorem LgS.mono {s : DS} {t : LS} {cl : List VoteV} {k k' : Nat} (h : LgS s t cl k) (hk : k ≤ k') : LgS s t cl k' := by
 rcases h with h | ⟨h1, ex, h2, h3⟩
 · exact .inl h
 · exact .inr ⟨h1, ex, h2.mono hk rfl rfl, h3⟩
theorem VI.mono {s : DS} {t : LS} {y : BkS} {cl : List VoteV} {k k' : Nat} (h : VI s t y cl k) (hk : k ≤ k') : VI s t y cl k' :=
 ⟨h.lg.mono hk, h.yok, h.same, h.came, by have := h.seg; omega, by have := h.last; omega, h.siz, by have := h.nx; omega, by have := h.len; omega, h.short⟩
/-- The store is up, or down, without anything pending: nothing is known to have been lost. -/
theorem LgS.stay {s s' : DS} {t : LS} {cl : List VoteV} {k : Nat} (h : LgS s t cl k) (h1 : s'.e1 = s.e1) (h2 : s'.e2 = s.e2) (h3 : s'.pend = s.pend) (h4 : s'.down = true ∨ s'.down = s.down) (hs : t.segs.length ≤ k) (hl : lastN t.segs ≤ k) (hn : t.nx ≤ 1 + k) : LgS s' t cl k := by
 rcases h with ⟨q1, q2, q3, fs, rc, q4⟩ | ⟨q1, ex, q2, q3⟩
 · rcases h4 with h4 | h4
   · exact .inr ⟨h4, none, ⟨t.segs, fs, rc, t.nx, by rw [h1]; exact q4, hl, hs, hn, .inl ⟨by rw [h3]; exact q2, rfl⟩⟩, fun v h => by cases h⟩
   · exact .inl ⟨by rw [h4]; exact q1, by rw [h3]; exact q2, by rw [h1, h2]; exact q3, fs, rc, by rw [h1]; exact q4⟩
 · exact .inr ⟨by rcases h4 with h4 | h4; exact h4; rw [h4]; exact q1, ex, q2.mono (Nat.le_refl _) h1 h3, q3⟩
theorem VI.step {s : DS} {t : LS} {y : BkS} {cl : List VoteV} {k : Nat} {fu : Bool} {v : VoteV} {M K : Nat} {z : VoR} (h : VI s t y cl k) (hk : k ≤ 40) (hok : s.Ok M K) (hK : 2000000 ≤ K) (hv : VoteR fu t s y v.abs M K z) :
 VI z.s z.t z.y (if z.e = 0 then cl ++ [v] else cl) (k + 1) ∧ z.s.Ok (M + 1) K := by
 have hseg := h.seg
 have hlast := h.last
 have hnx := h.nx
 have hsz := h.siz
 rcases hv with ⟨he, -, h2, h3, h4⟩ | ⟨-, hput, hpl, hnew, hc⟩
 · rw [if_neg he, h2, h3, h4]
   exact ⟨h.mono (by omega), hok.mono (by omega) (by omega)⟩
 · have hrl : (recV v.abs).length ≤ 40000 := by rw [recV_len]; omega
   have hslot : y.k.slot = slotL cl := h.same.slot
   have htk : takeL cl v = 0 := takeL_zero hput (by rw [← hslot]; exact hnew)
   rcases hc with ⟨he, ha, -, h4⟩ | ⟨s1, ha, hok1, hsy, -, hend⟩
   · rw [if_neg he, h4]
     rcases ha.any hrl (by omega) hsz hok.good2 with ⟨-, q1, q2, q3, q4, q5⟩ | ⟨q, -⟩
     · rw [q1]
       have hst := h.lg.stay q2 q3 q4 q5 hseg hlast hnx
       exact ⟨VI.mono ⟨hst, h.yok, h.same, h.came, hseg, hlast, hsz, hnx, h.len, h.short⟩ (by omega), ha.okM hok (by have := (toldB_len t.nx (by omega) (recV v.abs) (by omega)).1; omega) hK⟩
     · exact absurd q he
   · rcases ha.any hrl (by omega) hsz hok.good2 with ⟨q, -⟩ | ⟨-, q1, q2, q3, q4, q5, a, q6, q7, q8, q9⟩
     · exact absurd rfl q
     · have hl : s.pend = [] ∧ cont s.e2 = cont s.e1 ∧ ∃ fs rc, LogF lgB (cont s.e1) t.segs fs rc [] (recL cl) t.nx := by
        rcases h.lg with ⟨-, g⟩ | ⟨g, -⟩
        · exact g
        · rw [q1] at g; cases g
       obtain ⟨g1, g2, fs, rc, g3⟩ := hl
       have hsegs : z.t.segs.length ≤ k + 1 ∧ lastN z.t.segs ≤ k + 1 := by
        rw [q9]
        split
        · exact ⟨by omega, by omega⟩
        · rw [last_app]; have := new_le t.segs; simp; omega
       have hok2 := hsy.ok hok1
       rcases hend with ⟨d1, d2, d3⟩ | ⟨d1, d2, d3, d4⟩
       · rw [if_neg (by rw [d2]; decide), d3]
         refine ⟨⟨.inr ⟨d1, some v, ⟨t.segs, fs, rc, t.nx, ?_, by omega, by omega, by omega, .inr ⟨a, recV v.abs, ?_, rfl, q6⟩⟩, fun w hw => by cases hw; exact ⟨htk, hpl⟩⟩, h.yok, h.same, h.came, hsegs.1, hsegs.2, q5, by omega, by have := h.len; omega, h.short⟩, hok2⟩
         · have e1 : z.s.e1 = s.e1 := by
            rcases hsy with ⟨-, hz⟩ | ⟨-, q1', q2', hz⟩
            · rw [hz]; exact q3
            · rw [hz] at d1; cases d1
           rw [e1]; exact g3
         · rcases hsy with ⟨-, hz⟩ | ⟨-, q1', q2', hz⟩
           · rw [hz]; show s1.pend = [a]; rw [q7, g1]; rfl
           · rw [hz] at d1; cases d1
       · have hts := take_same (v := v) h.same
         rw [htk] at hts
         have he0 : z.e = 0 := by rw [d2]; exact hts.1
         rw [if_pos he0]
         have hz2 : z.s.e1 = s1.e2 ∧ z.s.e2 = s1.e2 ∧ z.s.pend = [] := by
          rcases hsy with ⟨-, hz⟩ | ⟨-, q1', q2', hz⟩
          · rw [hz] at d1; cases d1
          · rw [hz]; exact ⟨rfl, rfl, rfl⟩
         obtain ⟨fs', rc', g4⟩ := g3.act q6 (by omega)
         refine ⟨⟨.inl ⟨d1, hz2.2.2, by rw [hz2.1, hz2.2.1], fs', rc', ?_⟩, d3, by rw [d4]; exact hts.2.1 hts.1, takes_snoc h.came htk, hsegs.1, hsegs.2, q5, by omega, by have := h.len; simp; omega, fun w hw => ?_⟩, hok2⟩
         · rw [hz2.1, q8, g2, q9, q4]
           rw [show recL (cl ++ [v]) = recL cl ++ [recV v.abs] from by unfold recL; rw [List.map_append]; rfl]
           exact g4
         · rcases List.mem_append.1 hw with hw | hw
           · exact h.short w hw
           · obtain rfl : w = v := by simpa using hw
             exact hpl
/-- Behind a crash: the votes that were answered, and perhaps one more. -/
theorem VI.crash {s s' : DS} {t : LS} {y : BkS} {cl : List VoteV} {k N M kp : Nat} {torn cut : Int} (h : VI s t y cl k) (hk : k ≤ 41) (hc : CrashX s N M kp torn cut s') :
 ∃ (L : List VoteV) (segs : List Nat) (fs : Nat → Nat) (rc : Nat → List (List UInt8)) (tl : List UInt8) (nx : Nat), LogF lgB (cont s'.e2) segs fs rc tl (recL L) nx ∧ (readE tl = none ∧ tl.length ≤ 40100) ∧ lastN segs ≤ 42 ∧ segs.length ≤ 42 ∧ nx ≤ 43 ∧ (segs.length = 0 → tl = []) ∧
  (∀ i (hi : i < L.length), takeL (L.take i) L[i] = 0) ∧ L.length ≤ 42 ∧ (∀ v ∈ L, (putV v.abs).1.length ≤ 30000) ∧ (L = cl ∨ (s.down = true ∧ ∃ v, L = cl ++ [v] ∧ takeL cl v = 0)) := by
 have hh : ∃ ex : Option VoteV, Hurt lgB s (recL cl) (ex.map fun v => recV v.abs) k ∧ (∀ v, ex = some v → s.down = true ∧ takeL cl v = 0 ∧ (putV v.abs).1.length ≤ 30000) := by
  rcases h.lg with ⟨q1, q2, q3, fs, rc, q4⟩ | ⟨q1, ex, q2, q3⟩
  · exact ⟨none, ⟨t.segs, fs, rc, t.nx, q4, h.last, h.seg, h.nx, .inl ⟨q2, rfl⟩⟩, fun v h => by cases h⟩
  · exact ⟨ex, q2, fun v hv => ⟨q1, q3 v hv⟩⟩
 obtain ⟨ex, hH, hex⟩ := hh
 have hlen := h.len
 obtain ⟨segs, fs, rc, tl, nx, all', g1, g2, g3, g4, g5, g6, g7⟩ := hH.crash (by omega) (fun r hr => by
  obtain ⟨v, hv, rfl⟩ := Option.map_eq_some_iff.1 hr
  rw [recV_len]; have := (hex v hv).2.2; omega) hc
 rcases g7 with rfl | ⟨r, hr, rfl⟩
 · exact ⟨cl, segs, fs, rc, tl, nx, g1, g2, by omega, by omega, by omega, g6, h.came, by omega, h.short, .inl rfl⟩
 · obtain ⟨v, hv, rfl⟩ := Option.map_eq_some_iff.1 hr
   obtain ⟨e1, e2, e3⟩ := hex v hv
   refine ⟨cl ++ [v], segs, fs, rc, tl, nx, ?_, g2, by omega, by omega, by omega, g6, takes_snoc h.came e2, by simp; omega, fun w hw => ?_, .inr ⟨e1, v, rfl, e2⟩⟩
   · rw [show recL (cl ++ [v]) = recL cl ++ [recV v.abs] from by unfold recL; rw [List.map_append]; rfl]
     exact g1
   · rcases List.mem_append.1 hw with hw | hw
     · exact h.short w hw
     · obtain rfl : w = v := by simpa using hw
       exact e3
/-- A file's text is what its scan wants. -/
def cfL (fs : Nat → Nat) (rc : Nat → List (List UInt8)) (segs : List Nat) (tl : List UInt8) (n : Nat) : List UInt8 := recsB (fs n) (rc n) ++ (if n = lastN segs then tl else [])
structure OpenP (s : DS) (L : List VoteV) (segs : List Nat) (cf : Nat → List UInt8) : Prop where
 perm : (colN (nfB lgB) (namesE s.e2)).Perm segs
 keyz : ∀ e ∈ s.e2, e.k.size ≤ maxLen
 nums : ∀ nm ∈ namesE s.e2, ∃ n, 1 ≤ n ∧ n < 100 ∧ nm = nmB lgB n
 lnames : (namesE s.e2).length ≤ 1000
 rise : segs.Pairwise (· < ·)
 lt : ∀ n ∈ segs, n < 100
 file : ∀ n ∈ segs, cont s.e2 (nmB lgB n) = some (cf n)
 size : ∀ n ∈ segs, (cf n).length ≤ 2000000
 tot : ∀ k, (foldR cf (segs.take k) Sc0).length ≤ 1000000
 recs : ∀ (M K : Nat) (w : OpR), OpenR lgB s cf segs M K w → w.e = 0 → w.all.map BS.l = (L.map VoteV.abs).map recV
 state : hasE s.e2 stB = false
theorem st_ne {n : Nat} : stB ≠ nmB lgB n := fun h => by
 have h1 := congrArg (fun b : ByteArray => b.data.toList) h
 simp only [nm_list] at h1
 exact absurd h1 (by show ([115, 116, 97, 116, 101] : List UInt8) ≠ _; intro h2; cases h2)
theorem LogF.openP {s : DS} {L : List VoteV} {segs : List Nat} {fs : Nat → Nat} {rc : Nat → List (List UInt8)} {tl : List UInt8} {nx : Nat} {c : Nat} (h : LogF lgB (cont s.e2) segs fs rc tl (recL L) nx) (hg : GoodM s.e2 s.c2) (ht : readE tl = none ∧ tl.length ≤ 40100) (hl : lastN segs ≤ 42) (hsl : segs.length ≤ 42) (hn : nx ≤ 43) (h0 : segs.length = 0 → tl = []) (hL : L.length ≤ 42) (hs : ∀ v ∈ L, (putV v.abs).1.length ≤ 30000) : OpenP s L segs (cfL fs rc segs tl) := by
 obtain ⟨ns, n1, n2⟩ := h.names (by omega) hg
 have hlt : ∀ n ∈ segs, n < 100 := fun n hn => by have := (h.rng n hn).2; omega
 have hnum : ∀ nm ∈ namesE s.e2, ∃ n, 1 ≤ n ∧ n < 100 ∧ nm = nmB lgB n := fun nm hm => by
  rw [n1] at hm
  obtain ⟨n, hn2, rfl⟩ := List.mem_map.1 hm
  have := n2.mem_iff.1 hn2
  exact ⟨n, (h.rng n this).1, hlt n this, rfl⟩
 have hcol : colN (nfB lgB) (namesE s.e2) = ns := by
  unfold colN
  rw [n1, List.map_map]
  have e : ns.map (nfB lgB ∘ nmB lgB) = ns := by
   conv => rhs; rw [← List.map_id ns]
   exact List.map_congr_left fun n hn2 => nfB_nm (hlt n (n2.mem_iff.1 hn2))
  rw [e, List.filter_eq_self]
  intro n hn2
  have := (h.rng n (n2.mem_iff.1 hn2)).1
  simp; omega
 obtain ⟨a, ha, hch⟩ := h.chain
 have htot := h.tot
 have hall : (segs.flatMap rc).length ≤ 42 := by rw [← htot]; unfold recL; rw [List.length_map]; exact hL
 have hmem : ∀ n ∈ segs, ∀ l ∈ rc n, l.length ≤ 30001 := fun n hn2 l hl2 => by
  have hm : l ∈ segs.flatMap rc := List.mem_flatMap.2 ⟨n, hn2, hl2⟩
  rw [← htot] at hm
  obtain ⟨v, hv, rfl⟩ := List.mem_map.1 hm
  rw [recV_len]; have := hs v hv; omega
 have hcf : ∀ n ∈ segs, cfL fs rc segs tl n = recsB (fs n) (rc n) ++ (if n = lastN segs then tl else []) ∧ readE (if n = lastN segs then tl else []) = none := fun n _ => ⟨rfl, by split; exact ht.1; exact readE_nil⟩
 have hfold := fun k => fold_at (tl := fun n => if n = lastN segs then tl else []) hch ha (by omega) hcf (fun n hn2 l hl2 => by have := hmem n hn2 l hl2; omega) k
 refine ⟨by rw [hcol]; exact n2, fun e he => ?_, hnum, by rw [n1, List.length_map, n2.length_eq]; omega, h.rise, hlt, h.file, fun n hn2 => ?_, fun k => ?_, fun M K w hw he => ?_, ?_⟩
 · obtain ⟨n, -, hn2, hk⟩ := hnum e.k ((namesE_perm s.e2).mem_iff.2 (List.mem_map.2 ⟨e, he, rfl⟩))
   have h1 := nm_size3 (pre := lgB) n hn2
   rw [hk]
   have h2 : lgB.size = 3 := rfl
   unfold maxLen; omega
 · have h1 := flat_memL rc hn2
   have h2 := recsB_le (B := 30001) (by decide) (rc n) (fs n) (by have := chL_bound hch n hn2; omega) (hmem n hn2)
   have h3 : (30001 + 28) * (rc n).length ≤ (30001 + 28) * 42 := Nat.mul_le_mul_left _ (by omega)
   unfold cfL
   rw [List.length_append]
   have h4 : (if n = lastN segs then tl else []).length ≤ 40100 := by split; exact ht.2; simp
   omega
 · rw [(hfold k).1]
   have h1 : ((segs.take k).flatMap rc).length ≤ (segs.flatMap rc).length := by
    conv => rhs; rw [← List.take_append_drop k segs, List.flatMap_append, List.length_append]
    omega
   omega
 · have hend : ∀ k, segs.take k = segs → foldR (cfL fs rc segs tl) (segs.take k) Sc0 = (L.map VoteV.abs).map recV := fun k hk => by
    rw [(hfold k).1, hk, ← htot, List.map_map]; rfl
   obtain ⟨-, ⟨he4, -⟩ | ⟨-, -, ⟨-, -, -, ha2⟩ | ⟨k, hk, -, hlt2, -, -, -, -, -, -, ha2⟩⟩⟩ := hw
   · omega
   · rw [ha2]
     have := hend segs.length List.take_length
     rwa [List.take_length] at this
   · rw [ha2]
     refine hend (k + 1) ?_
     have h1 := (hfold k).2 hk
     rw [h1] at hlt2
     unfold cfL at hlt2
     rw [List.length_append] at hlt2
     have hlk : segs[k] = lastN segs := by
      by_cases hq : segs[k] = lastN segs
      · exact hq
      · rw [if_neg hq] at hlt2; simp at hlt2
     obtain ⟨i, hi⟩ := split_last (l := segs) (by omega)
     have hki : k = i.length := by
      have hli := congrArg List.length hi
      rw [List.length_append, List.length_singleton] at hli
      have e2 : segs[i.length]'(by omega) = lastN segs := by
       have : segs[i.length]? = some (lastN segs) := by rw [hi]; simp [last_app]
       rw [List.getElem?_eq_getElem (by omega)] at this
       exact Option.some.inj this
      exact (List.getElem_inj (h.rise.imp Nat.ne_of_lt)).1 (hlk.trans e2.symm)
     rw [List.take_of_length_le]
     have hli := congrArg List.length hi
     rw [List.length_append, List.length_singleton] at hli
     omega
 · rw [cont_has]
   cases hq : cont s.e2 stB with
   | none => rfl
   | some l =>
    obtain ⟨n, -, he⟩ := h.keys stB (by rw [hq]; exact fun h => by cases h)
    exact absurd he st_ne
/-! ## What is told behind it -/
theorem reg_kept {y : BookD} {cl L : List VoteV} (hs : SameD y L) (hL : L = cl ∨ ∃ v, L = cl ++ [v] ∧ takeL cl v = 0) : ¬ (0 ≤ (regL cl).1 ∧ (y.now.view < (regL cl).1 ∨ (y.now.view = (regL cl).1 ∧ y.now.reg < (regL cl).2))) := by
 rintro ⟨h0, h1⟩
 have hge : (regL cl).1 < (regL L).1 ∨ ((regL cl).1 = (regL L).1 ∧ (regL cl).2 ≤ (regL L).2) := by
  rcases hL with rfl | ⟨v, rfl, -⟩
  · exact .inr ⟨rfl, Int.le_refl _⟩
  · rw [regL_snoc]
    unfold regS
    split
    · rename_i h2
      show (regL cl).1 < v.view ∨ ((regL cl).1 = v.view ∧ (regL cl).2 ≤ v.reg)
      omega
    · exact .inr ⟨rfl, Int.le_refl _⟩
 have hn := hs.now (hs.ent.trans (decide_eq_true (by omega)))
 have e1 : y.now.view = (regL L).1 := by rw [hn]
 have e2 : y.now.reg = (regL L).2 := by rw [hn]
 omega
/-- A vote that was answered, of the slot that was reached: it is told still, or a later slot is reached. -/
theorem wrote_kept {y : BookD} {cl L : List VoteV} {x : VoteV} (hs : SameD y L) (hL : L = cl ∨ ∃ v, L = cl ++ [v] ∧ takeL cl v = 0) (hx : x ∈ cl) (hk : x.kind = 2) (hsl : x.slot = slotL cl) :
 (∃ u, wroteL cl ⟨x.view, x.reg⟩ = some u ∧ y.slot = x.slot ∧ y.get ⟨x.view, x.reg⟩ = some u.abs) ∨ (L ≠ cl ∧ x.slot < slotL L ∧ y.slot = slotL L) := by
 have hw : ∃ u, wroteL cl ⟨x.view, x.reg⟩ = some u := by
  have : (wroteL cl ⟨x.view, x.reg⟩).isSome = true := by
   unfold wroteL
   rw [List.find?_isSome]
   exact ⟨x, hx, by simp [isW, hk, hsl]⟩
  exact Option.isSome_iff_exists.1 this
 obtain ⟨u, hu⟩ := hw
 rcases hL with rfl | ⟨v, rfl, hv⟩
 · exact .inl ⟨u, hu, by rw [hs.slot, hsl], by rw [hs.wrote, hu]; rfl⟩
 · have hnew := takeL_new hv
   by_cases h1 : 1 < v.kind
   · have hns : ¬ v.slot < slotL cl := fun h => hnew ⟨h1, h⟩
     have es : slotL (cl ++ [v]) = v.slot := by rw [slotL_snoc, slotS_ge h1 hns]
     by_cases h2 : slotL cl < v.slot
     · exact .inr ⟨by simp, by rw [es]; omega, hs.slot⟩
     · have e : v.slot = slotL cl := by omega
       refine .inl ⟨u, hu, by rw [hs.slot, es, hsl, e], ?_⟩
       rw [hs.wrote, wrote_snoc h1 hns, if_neg h2, hu]; rfl
   · have es : slotL (cl ++ [v]) = slotL cl := by rw [slotL_snoc]; unfold slotS; rw [if_neg (by omega)]
     refine .inl ⟨u, hu, by rw [hs.slot, es, hsl], ?_⟩
     rw [hs.wrote]
     have : wroteL (cl ++ [v]) ⟨x.view, x.reg⟩ = wroteL cl ⟨x.view, x.reg⟩ := by
      unfold wroteL
      rw [es, find_snoc, if_neg (by simp [isW]; omega)]
      cases (cl.find? _) <;> rfl
     rw [this, hu]; rfl
theorem slot_abs {l m : List VoteV} (h : l.map VoteV.abs = m.map VoteV.abs) : slotL l = slotL m := by
 have e : ∀ l : List VoteV, slotL l = (l.map VoteV.abs).foldl (fun n v => if 1 < v.kind ∧ n < v.slot then v.slot else n) 0 := fun l => by
  rw [List.foldl_map]; rfl
 rw [e l, e m, h]
attribute [local irreducible] toldB recsB nmB lastN newN sha recV worldB putV takeD foldR foldS namesE
end
end Go.Proofs.YtgeknnclmhfjlaaGreatDoor
