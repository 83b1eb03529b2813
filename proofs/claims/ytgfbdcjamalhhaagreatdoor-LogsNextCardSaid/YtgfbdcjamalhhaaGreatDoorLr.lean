/- The example of the laws on logs; the law LogsNil, walked. -/
import Derived.Test.YtgfbdcjamalhhaaGreatDoorLq
namespace Go.Proofs.YtgfbdcjamalhhaaGreatDoor
open Go.RowKit Go.Sx
set_option maxRecDepth 100000
set_option linter.unusedSimpArgs false
set_option linter.unusedVariables false
/-- A literal's bytes, turned to bytes: read-only from there on. -/
theorem Ef_convB {P : Program} {w0 : World} {σ : Env} {H Hr : List SA} {d : Option Nat} {ty : TypeId} {pos : String} {aft : Array Edge} {g : Option (Nat × Bool)} {K : Value → List SA → Prop} {x : Operand} {t e c : Nat} {a : Option Addr} {l : List UInt8} (hx : ev σ x = .slice a l.length c) (hl : 0 < l.length)
    [hr : PickB (.slice a l.length c) H e l Hr] (ht : P.underlying t = some (.slice e)) (he : P.underlying e = some (.int .u8)) (h : K (.slice a l.length c) (dat (rowFp (.slice a l.length c)) ⟨[⟨a, c, l⟩], [], []⟩ :: Hr)) : Ef P w0 H σ ⟨d, .convert t t x, ty, pos, aft, g⟩ K := fun w hw => by
  have hw1 := hr.st hw
  have hrow : rowP (.slice a l.length c) e 1 (bytesV l) w := hw1.holds (row (.slice a l.length c) e 1 (bytesV l)) (by simp)
  have hin := rowP.bytesIn hrow
  obtain ⟨a', n', c', hv, hlen, hn, hc, ha, hcc⟩ := hrow
  simp only [Value.slice.injEq] at hv
  obtain ⟨rfl, rfl, rfl⟩ := hv
  obtain ⟨g0, cur, rfl, hblk, hsz, htk⟩ := hcc (by omega)
  have hrun : (convert t t (.slice (some ⟨g0, 0, none⟩) l.length c)).run P w = .ok (.slice (some ⟨g0, 0, none⟩) l.length c) (w.freeze ⟨g0, cur.size, none⟩ 1) := by
    have hsh : w.shape? g0 = some (e, cur.size) := by unfold World.shape?; rw [hblk]
    simp [convert, run_underlying ht, run_underlying he, markStringish, hsh]
  have hfz : w.freeze ⟨g0, cur.size, none⟩ 1 = { w with heap := w.heap.modify g0 fun
      | .cells c elem (lo, hi) => .cells c elem (if lo == hi then (cur.size, cur.size + 1) else (min lo cur.size, max hi (cur.size + 1)))
      | o => o } := by unfold World.freeze; rw [if_neg (by decide)]; rfl
  have hlt : g0 < w.heap.size := (Array.getElem?_eq_some_iff.1 hblk).1
  have hold : ∀ k, k ≠ g0 → (w.freeze ⟨g0, cur.size, none⟩ 1).heap[k]? = w.heap[k]? := fun k hk => by
    rw [hfz]
    show (w.heap.modify g0 _)[k]? = _
    rw [Array.getElem?_modify, if_neg (fun h => hk h.symm)]
  have hnew : ∃ fz, (w.freeze ⟨g0, cur.size, none⟩ 1).heap[g0]? = some (.cells cur e fz) := by
    rw [hfz]
    show ∃ fz, (w.heap.modify g0 _)[g0]? = _
    rw [Array.getElem?_modify, if_pos rfl, hblk]
    exact ⟨_, rfl⟩
  have hsize : (w.freeze ⟨g0, cur.size, none⟩ 1).heap.size = w.heap.size := by rw [hfz]; show (w.heap.modify g0 _).size = _; simp
  have hst : St w0 (dat (rowFp (.slice (some ⟨g0, 0, none⟩) l.length c)) ⟨[⟨some ⟨g0, 0, none⟩, c, l⟩], [], []⟩ :: Hr) (w.freeze ⟨g0, cur.size, none⟩ 1) := by
    have hfp : rowFp (.slice (some ⟨g0, 0, none⟩) l.length c) = [g0] := by simp [rowFp]; omega
    refine hw1.swap (by rw [hfz]) (by rw [hfz]) (by rw [hfz]) (by rw [hsize]; exact Nat.le_refl _) (fun k _ hk => hold k (fun he => hk (by show k ∈ rowFp (.slice (some ⟨g0, 0, none⟩) l.length c); rw [hfp, he]; simp))) ?_ (by show (rowFp (.slice (some ⟨g0, 0, none⟩) l.length c)).Nodup; rw [hfp]; simp) (fun b hb => by
      have hb2 : b ∈ rowFp (.slice (some ⟨g0, 0, none⟩) l.length c) := hb
      refine ⟨.inl hb2, ?_⟩
      rw [hfp] at hb2
      obtain rfl : b = g0 := by simpa using hb2
      rw [hsize]; exact hlt)
    refine ⟨fun y hy => ?_, fun _ h => (by cases h), fun _ h => (by cases h), fun _ h => (by cases h)⟩
    obtain rfl : y = ⟨some ⟨g0, 0, none⟩, c, l⟩ := by simpa using hy
    obtain ⟨a2, n2, c2, h1, h2, h3, h4, h5⟩ := hin
    refine ⟨a2, n2, c2, h1, h2, h3, h4, fun h0 => ?_⟩
    obtain ⟨b, o, e1, e2, e3⟩ := h5 h0
    refine ⟨b, o, e1, e2, fun j u hj => ?_⟩
    rw [← e3 j u hj]
    rw [hfp] at e2
    obtain rfl : b = g0 := by simpa using e2
    obtain ⟨fz, hfz2⟩ := hnew
    simp only [World.cell?, hfz2, hblk]
  simp only [execOp, hx, Sem.run_bind, hrun, Result.andThen_ok, Sem.run_pure, upon]
  exact ⟨_, h, hst⟩
theorem Qt_indexS {P : Program} {w0 : World} {σ : Env} {H : List SA} {d : Option Nat} {ty : TypeId} {pos : String} {aft : Array Edge} {g : Option (Nat × Bool)} {t : TypeId} {x i : Operand} {s : ByteArray} {k : IntKind} {j : Nat} (hx : ev σ x = .string s) (hi : ev σ i = .int k (j : Int)) (ht : P.underlying t = some .string) (hj : j < s.size) :
    Qt P w0 H σ ⟨d, .index t x i, ty, pos, aft, g⟩ (.int .u8 (((s.data.toList.getD j 0).toNat : Nat) : Int)) := fun w _ => by
  have h2 : (0 : Int) ≤ (j : Int) ∧ (j : Int) < s.size := by omega
  have e : s[((j : Int)).toNat]'(by omega) = s.data.toList.getD j 0 := by
    rw [List.getD_eq_getElem?_getD, List.getElem?_eq_getElem (by simpa using hj)]
    simp
    rfl
  simp only [execOp, hx, hi, Sem.run_bind, run_index_string w t s k j ht, dif_pos h2, Result.andThen_ok, Sem.run_pure, e]
def pF : ByteArray := ⟨#[102]⟩
def nF1 : ByteArray := ⟨#[102, 46, 49]⟩
abbrev T0 : LS := ⟨none, 0, [], 0, 1, false⟩
theorem AppR.live {k : Int} {less : Nat} {s s' : DS} {nm : ByteArray} {b : List UInt8} {e : Int} (h : AppR k less s nm b s' e) (hk : k = 1 ∨ k = 2) (hd : s.down = false) (hf : s.fuse = -1) :
    (e ≠ 0 → s' = s ∧ ((e = 15 ∧ namedB nm = false) ∨ (e = 4 ∧ fitsB s.room s.e2 b.length less = false))) ∧
    (e = 0 → s'.down = false ∧ s'.fuse = -1 ∧ s'.room = s.room ∧ ∃ x : BS, x.l = (if k = 1 then (oldE s.e2 nm).l ++ b else b) ∧ ∀ key, getE s'.e2 key = if key = nm then some x else getE s.e2 key) := by
  rcases h with ⟨h, -⟩ | ⟨-, h, he, rfl⟩ | ⟨-, -, h, he, rfl⟩ | ⟨-, h1, h2, cl, fp, hcl, hd'⟩
  · rw [hd] at h; cases h
  · exact ⟨fun _ => ⟨rfl, .inl ⟨he, h⟩⟩, fun h0 => absurd (he.symm.trans h0) (by decide)⟩
  · exact ⟨fun _ => ⟨rfl, .inr ⟨he, h⟩⟩, fun h0 => absurd (he.symm.trans h0) (by decide)⟩
  · rcases hd' with ⟨h, -⟩ | ⟨-, he, x, pa, pc, fp', hx, rfl⟩
    · exact absurd h (by show burnD s.fuse s.down ≠ true; rw [hf, hd]; decide)
    · refine ⟨fun h => absurd he h, fun _ => ⟨rfl, by show burnF s.fuse = -1; rw [hf]; rfl, rfl, x, ?_, fun key => ?_⟩⟩
      · rw [hx]
        show (if k = 1 then (oldE s.e2 nm).l ++ cl.l else if k = 2 then cl.l else []) = _
        rw [hcl]
        rcases hk with rfl | rfl
        · rfl
        · rfl
      · show getE (doE s.e2 ⟨k, nm, ⟨#[]⟩, cl⟩ x s.c2) key = _
        unfold doE
        rw [if_pos hk]
        by_cases hke : key = nm
        · subst hke; rw [if_pos rfl]; exact getE_put_eq _ _ _ _
        · rw [if_neg hke]; exact getE_put_ne _ _ _ _ _ hke
theorem recs1 : recsB 1 [[97]] = 1 :: 1 :: 97 :: (sha [1, 1, 97]).toList.take 8 := by
  have e1 : packed 1 = [1] := packed_small (by decide)
  simp only [recsB, toldB, List.length_cons, List.length_nil, Nat.zero_add, e1, List.append_nil]
  rfl
theorem nm1 : nmB pF 1 = nF1 := by
  unfold nmB
  rw [Lib.decDigits_one (by decide)]
  decide
theorem wakeL {r1 r2 : Nat} {s' : DS} {t' : LS} {e : Int} (h : AppendR pF (newS r1 r2 100) T0 [97] s' t' e) : e = 0 ∧ t'.nx = 2 ∧ hasE s'.e2 nF1 = true ∧ (oldE s'.e2 nF1).l = 1 :: 1 :: 97 :: (sha [1, 1, 97]).toList.take 8 := by
  rcases h with ⟨-, ha, h1, h2⟩ | ⟨h, -⟩
  · have hn : nmB pF (newN T0.segs) = nF1 := nm1
    have hb : recsB T0.nx [[97]] = _ := recs1
    rw [hn, hb] at ha
    have hlen : (1 :: 1 :: 97 :: (sha [1, 1, 97]).toList.take 8 : List UInt8).length = 11 := by
      simp only [List.length_cons, List.length_take, Vector.length_toList]; rfl
    have live := ha.live (.inr rfl) rfl rfl
    have he : e = 0 := by
      by_cases he : e = 0
      · exact he
      · obtain ⟨-, ⟨-, h⟩ | ⟨-, h⟩⟩ := live.1 he
        · exact absurd h (by decide)
        · rw [hlen] at h; exact absurd h (by show fitsB (roomOf 100) [] (11 : Nat) (0 : Nat) ≠ false; decide)
    obtain ⟨-, -, -, x, hx, hg⟩ := live.2 he
    have hgx : getE s'.e2 nF1 = some x := by rw [hg, if_pos rfl]
    rw [if_neg (by decide)] at hx
    refine ⟨he, ?_, by unfold hasE; rw [hgx]; rfl, by unfold oldE; rw [hgx]; exact hx⟩
    rw [(h2 he).2.2.1]; rfl
  · exact absurd (.inl rfl) h
theorem fineF1 : fineB pF = true := by decide +kernel
/-- Are the first bytes of a text small letters? -/
def okP (s : ByteArray) (k : Nat) : Bool := (decide (1 ≤ s.size) && decide (s.size ≤ 8)) && (s.data.toList.take k).all fun c => decide (97 ≤ c.toNat) && decide (c.toNat ≤ 122)
theorem okP_t {s : ByteArray} (h : 1 ≤ s.size) : okP s 0 = decide ((s.size : Int) ≤ 8) := by
  have : decide ((s.size : Int) ≤ 8) = decide (s.size ≤ 8) := by rw [Bool.eq_iff_iff]; simp; omega
  unfold okP; rw [this, decide_eq_true h]; simp
theorem okP_f {s : ByteArray} (h : ¬ 1 ≤ s.size) : okP s 0 = false := by unfold okP; rw [decide_eq_false h]; simp
theorem okP_s {s : ByteArray} {k : Nat} (hk : k < s.size) : okP s (k + 1) = (okP s k && (decide (97 ≤ (s.data.toList.getD k 0).toNat) && decide ((s.data.toList.getD k 0).toNat ≤ 122))) := by
  unfold okP
  have hk2 : k < s.data.toList.length := by simpa using hk
  rw [List.take_add_one, List.getElem?_eq_getElem hk2, List.all_append, List.getD_eq_getElem?_getD, List.getElem?_eq_getElem hk2]
  simp [Bool.and_assoc]
theorem okA {s : ByteArray} {k : Nat} (hk : k < s.size) (h : okP s k = true) (h2 : 97 ≤ (s.data.toList.getD k 0).toNat) : okP s (k + 1) = decide ((((s.data.toList.getD k 0).toNat : Nat) : Int) ≤ 122) := by
  have : decide ((((s.data.toList.getD k 0).toNat : Nat) : Int) ≤ 122) = decide ((s.data.toList.getD k 0).toNat ≤ 122) := by rw [Bool.eq_iff_iff]; simp only [decide_eq_true_eq]; omega
  rw [okP_s hk, h, this, decide_eq_true h2]; rfl
theorem okB {s : ByteArray} {k : Nat} (hk : k < s.size) (h2 : ¬ 97 ≤ (s.data.toList.getD k 0).toNat) : okP s (k + 1) = false := by rw [okP_s hk, decide_eq_false h2]; simp
theorem okC {s : ByteArray} {k : Nat} (hk : k < s.size) (h : okP s k = false) : okP s (k + 1) = false := by rw [okP_s hk, h]; rfl
/-- A rune that begins with a byte beyond ASCII is no small letter. -/
theorem decode_high {s : ByteArray} {i : Nat} (h : 128 ≤ (s.get! (i + 0)).toNat) : 122 < (Utf8.decode s i).1 := by
  unfold Utf8.decode
  simp only
  rw [if_neg (by omega)]
  split
  · split
    · simp only; omega
    · simp only [Utf8.runeError]; omega
  · split
    · split
      · rename_i h1; simp only [Bool.and_eq_true, decide_eq_true_eq] at h1; simp only; omega
      · simp only [Utf8.runeError]; omega
    · split
      · split
        · rename_i h1; simp only [Bool.and_eq_true, decide_eq_true_eq] at h1; simp only; omega
        · simp only [Utf8.runeError]; omega
      · simp only [Utf8.runeError]; omega
theorem get_at {s : ByteArray} {i : Nat} (h : i < s.size) : s.get! (i + 0) = s.data.toList.getD i 0 := by
  rw [List.getD_eq_getElem?_getD, List.getElem?_eq_getElem (by simpa using h)]
  show s.get! i = _
  simp [ByteArray.get!, h]
theorem idx_ok (s : ByteArray) : ∀ (f pos : Nat), s.size ≤ pos + f → (Lib.idxFuncFrom fineF true s f pos < 0 ↔ ((s.data.toList.drop pos).all fun c => decide (97 ≤ c.toNat) && decide (c.toNat ≤ 122)) = true)
  | 0, pos, h => by
    have hz : s.data.toList.drop pos = [] := List.drop_eq_nil_of_le (by rw [Array.length_toList]; show s.size ≤ pos; omega)
    rw [hz]; simp [Lib.idxFuncFrom]
  | f + 1, pos, h => by
    unfold Lib.idxFuncFrom
    by_cases hp : pos < s.size
    · have hp2 : pos < s.data.toList.length := by simpa using hp
      rw [if_pos hp, List.drop_eq_getElem_cons hp2, List.all_cons]
      have hg : s.data.toList.getD pos 0 = s.data.toList[pos] := by rw [List.getD_eq_getElem?_getD, List.getElem?_eq_getElem hp2]; rfl
      have hat := get_at hp
      rw [hg] at hat
      have ih := idx_ok s f (pos + 1) (by omega)
      by_cases h128 : (s.data.toList[pos]).toNat < 128
      · have hd : Utf8.decode s pos = ((s.data.toList[pos]).toNat, 1) := by
          unfold Utf8.decode
          simp only [hat]
          rw [if_pos h128]
        rw [hd]
        simp only
        by_cases hb : 97 ≤ (s.data.toList[pos]).toNat ∧ (s.data.toList[pos]).toNat ≤ 122
        · have hf : fineF (s.data.toList[pos]).toNat = false := by unfold fineF; rw [decide_eq_false (by omega), decide_eq_false (by omega)]; rfl
          rw [hf, if_neg (by decide), ih, decide_eq_true hb.1, decide_eq_true hb.2]
          simp
        · have hf : fineF (s.data.toList[pos]).toNat = true := by
            unfold fineF
            by_cases h1 : (s.data.toList[pos]).toNat < 97
            · rw [decide_eq_true h1]; rfl
            · rw [decide_eq_true (show 122 < (s.data.toList[pos]).toNat by omega)]; simp
          rw [hf, if_pos rfl]
          constructor
          · intro h; omega
          · intro h
            rw [Bool.and_eq_true, Bool.and_eq_true, decide_eq_true_eq, decide_eq_true_eq] at h
            exact absurd h.1 hb
      · have hh := decode_high (s := s) (i := pos) (by rw [hat]; omega)
        have hf : fineF (Utf8.decode s pos).1 = true := by unfold fineF; rw [decide_eq_true hh]; simp
        rw [if_pos hf]
        constructor
        · intro h; omega
        · intro h
          rw [Bool.and_eq_true, Bool.and_eq_true, decide_eq_true_eq, decide_eq_true_eq] at h
          omega
    · rw [if_neg hp]
      have hz : s.data.toList.drop pos = [] := List.drop_eq_nil_of_le (by rw [Array.length_toList]; show s.size ≤ pos; omega)
      rw [hz]; simp
theorem fine_ok (s : ByteArray) : okP s s.size = fineB s := by
  have h := idx_ok s s.size 0 (by omega)
  rw [List.drop_zero] at h
  unfold okP fineB Lib.idxFunc
  rw [List.take_of_length_le (by rw [Array.length_toList]; exact Nat.le_refl _), Bool.and_assoc]
  congr 2
  rw [Bool.eq_iff_iff, decide_eq_true_eq]
  exact h.symm
theorem BeginR.ok {pre : ByteArray} {s s' : DS} {t t' : LS} {ls : List (List UInt8)} {e : Int} {M K : Nat} (h : BeginR pre s t ls s' t' e) (hok : s.Ok M K) (hb : (recsB t.nx ls).length ≤ 10000) (hK : 10000 ≤ K) : s'.Ok (M + 1) (K + 100000) :=
  h.1.ok hok (by omega) (by omega)
theorem AppendR.ok {pre : ByteArray} {s s' : DS} {t t' : LS} {l : List UInt8} {e : Int} {M K : Nat} (h : AppendR pre s t l s' t' e) (hok : s.Ok M K) (hb : (toldB t.nx l).length ≤ 10000) (hK : 10000 ≤ K) : s'.Ok (M + 1) (K + 100000) := by
  rcases h with ⟨-, hb2⟩ | ⟨-, ha, -⟩
  · exact hb2.ok hok (by rw [show recsB t.nx [l] = toldB t.nx l ++ [] from rfl, List.append_nil]; exact hb) hK
  · exact ha.ok hok (by omega) (by omega)
attribute [local irreducible] toldB recsB nmB sha okP
set_option maxHeartbeats 1000000 in
theorem wakes11_c {w0 : World} {H : List SA}  :
    CT Tryz.prog w0 (H) 7 [] (α := Unit) (fun _ => .bool true) (fun _ => H) := by
  refine CT_intro Tryz.func7 rfl Tryz.ntmps7 rfl ?_
  refine T_seq ?_
  refine T_region ?_
  refine TL_q (Qt_assign (.bool _) rfl) rfl ?_
  refine TL_nil ?_
  refine X_then ?_
  refine T_seq ?_
  refine T_region ?_
  refine TL_e rfl (Ef_call (dnew_c (n := 100)) rfl (fun x7 => ?_))
  refine TL_q (Qt_assign (.pointer _) rfl) rfl ?_
  refine TL_nil ?_
  refine X_then ?_
  refine T_seq ?_
  refine T_region ?_
  refine TL_q (Qt_move (.pointer _) rfl) rfl ?_
  have hok0 : (newS x7.2.1 x7.2.2 100).Ok 0 10000 := (newS_ok _ _ _).mono (by decide) (by decide)
  refine TL_e rfl (Ef_call (openE_c (p := x7.1) (s := (newS x7.2.1 x7.2.2 100)) hok0 (by decide) rfl (pre := pF) (by show 1 ≤ maxLen; unfold maxLen; omega) fineF1) rfl (fun x10 => ?_))
  refine TL_q (Qt_move (.tuple _) rfl) rfl ?_
  refine TL_q (Qt_extract rfl) rfl ?_
  refine TL_q (Qt_extract rfl) rfl ?_
  refine TL_q (Qt_extract rfl) rfl ?_
  refine TL_q (Qt_assign (.pointer _) rfl) rfl ?_
  refine TL_q (Qt_assign (.slice _ _ _) rfl) rfl ?_
  refine TL_q (Qt_assign (.int .i64 _) rfl) rfl ?_
  refine TL_nil ?_
  refine X_then ?_
  refine T_seq ?_
  refine T_seq ?_
  refine T_region ?_
  refine TL_q (Qt_move (.int .i64 _) rfl) rfl ?_
  refine TL_q (Qt_neq rfl rfl) rfl ?_
  refine TL_q (Qt_move (.bool _) rfl) rfl ?_
  refine TL_split 16 rfl (fun h16 => ?_) (fun h16 => ?_)
  ·
    have p16 := h16
    try simp only [decide_eq_true_eq, decide_eq_false_iff_not, Bool.not_eq_true', Bool.not_eq_false', Option.isNone_iff_eq_none, ne_eq, Decidable.not_not, Int.not_lt, Int.not_le] at p16
    exact absurd h16 (by decide)
  ·
    have p16 := h16
    try simp only [decide_eq_true_eq, decide_eq_false_iff_not, Bool.not_eq_true', Bool.not_eq_false', Option.isNone_iff_eq_none, ne_eq, Decidable.not_not, Int.not_lt, Int.not_le] at p16
    refine TL_take rfl rfl h16 ?_
    refine TL_q (Qt_move (.pointer _) rfl) rfl ?_
    refine TL_take rfl rfl h16 ?_
    refine TL_e rfl (Ef_sliceN (m := ([97] : List UInt8).length) [.int .u8 97] (bytesV [97]) rfl rfl rfl rfl (by simp [Value.cells]) rfl rfl (fun a18 c18 => ?_))
    refine TL_take rfl rfl h16 ?_
    refine TL_e rfl (Ef_convB (l := [97]) rfl (by decide) Tryz.underlying30 Tryz.underlying5 (?_))
    refine TL_conv (fun w hw => (Subs.st inferInstance w hw : St w0 (lblk x10 x7.1 pF (⟨none, 0, [], 0, 1, false⟩ : LS) :: lrow (⟨none, 0, [], 0, 1, false⟩ : LS) :: DS.H x7.1 (newS x7.2.1 x7.2.2 100) (dat (rowFp (.slice a18 ([97] : List UInt8).length c18)) ⟨[(⟨a18, c18, [97]⟩ : BS)], [], []⟩ :: H)) w)) ?_
    refine TL_take rfl rfl h16 ?_
    refine TL_e rfl (Ef_call (lappend_c (lp := x10) (p := x7.1) (pre := pF) (t := (⟨none, 0, [], 0, 1, false⟩ : LS)) (s := (newS x7.2.1 x7.2.2 100)) hok0 (by decide) (by decide) (by decide) (by decide) (by decide) (by decide) (by decide) (by decide) (b := (⟨a18, c18, [97]⟩ : BS)) (rb := RdE.get (ls := [(⟨a18, c18, [97]⟩ : BS)]) inferInstance (by simp)) (by simp)) rfl (fun x20 => ?_))
    refine TL_pure (fun h20 => ?_)
    have hok1 := h20.ok hok0 (by have h := (toldB_len 1 (by decide) [97] (by decide)).1; exact Nat.le_trans h (by decide)) (by decide)
    obtain ⟨w1, w2, w3, w4⟩ := wakeL h20
    rw [w1]
    refine TL_take rfl rfl h16 ?_
    refine TL_q (Qt_neq rfl rfl) rfl ?_
    refine TL_q (Qt_pick_f (.bool _) rfl h16 rfl) rfl ?_
    refine TL_q (Qt_move (.bool _) rfl) rfl ?_
    refine TL_split 23 rfl (fun h23 => ?_) (fun h23 => ?_)
    ·
      have p23 := h23
      try simp only [decide_eq_true_eq, decide_eq_false_iff_not, Bool.not_eq_true', Bool.not_eq_false', Option.isNone_iff_eq_none, ne_eq, Decidable.not_not, Int.not_lt, Int.not_le] at p23
      exact absurd h23 (by decide)
    ·
      have p23 := h23
      try simp only [decide_eq_true_eq, decide_eq_false_iff_not, Bool.not_eq_true', Bool.not_eq_false', Option.isNone_iff_eq_none, ne_eq, Decidable.not_not, Int.not_lt, Int.not_le] at p23
      refine TL_take rfl rfl h23 ?_
      refine TL_q (Qt_move (.pointer _) rfl) rfl ?_
      refine TL_frontA (lblk x10 x7.1 pF x20.2.1) ?_
      refine TL_take rfl rfl h23 ?_
      refine TL_e rfl (Ef_call (lnext_c (lp := x10) (p := x7.1) (pre := pF) (t := x20.2.1)) rfl (fun x25 => ?_))
      rw [w2]
      refine TL_take rfl rfl h23 ?_
      refine TL_q (Qt_neq rfl rfl) rfl ?_
      refine TL_q (Qt_pick_f (.bool _) rfl h23 rfl) rfl ?_
      refine TL_nil ?_
      refine X_then ?_
      refine T_cond rfl (fun h27 => ?_) (fun h27 => ?_)
      ·
        have p27 := h27
        try simp only [decide_eq_true_eq, decide_eq_false_iff_not, Bool.not_eq_true', Bool.not_eq_false', Option.isNone_iff_eq_none, ne_eq, Decidable.not_not, Int.not_lt, Int.not_le] at p27
        exact absurd h27 (by decide)
      ·
        have p27 := h27
        try simp only [decide_eq_true_eq, decide_eq_false_iff_not, Bool.not_eq_true', Bool.not_eq_false', Option.isNone_iff_eq_none, ne_eq, Decidable.not_not, Int.not_lt, Int.not_le] at p27
        refine T_skip ?_
        refine X_then ?_
        refine T_seq ?_
        refine T_region ?_
        refine TL_q (Qt_move (.pointer _) rfl) rfl ?_
        refine TL_conv (fun w hw => (Subs.st inferInstance w hw : St w0 (DS.H x7.1 x20.1 H) w)) ?_
        refine TL_e rfl (Ef_call (dread_c (p := x7.1) (s := x20.1) hok1 (by decide) (by decide) (nm := nF1)) rfl (fun x30 => ?_))
        rw [w3, w4]
        refine TL_q (Qt_move (.tuple _) rfl) rfl ?_
        refine TL_q (Qt_extract rfl) rfl ?_
        refine TL_q (Qt_extract rfl) rfl ?_
        refine TL_q (Qt_assign (.slice _ _ _) rfl) rfl ?_
        refine TL_q (Qt_assign (.int .i64 _) rfl) rfl ?_
        refine TL_nil ?_
        refine X_then ?_
        refine T_seq ?_
        refine T_region ?_
        refine TL_q (Qt_move (.int .i64 _) rfl) rfl ?_
        refine TL_q (Qt_eql rfl rfl) rfl ?_
        refine TL_q (Qt_move (.bool _) rfl) rfl ?_
        refine TL_split 35 rfl (fun h35 => ?_) (fun h35 => ?_)
        ·
          have p35 := h35
          try simp only [decide_eq_true_eq, decide_eq_false_iff_not, Bool.not_eq_true', Bool.not_eq_false', Option.isNone_iff_eq_none, ne_eq, Decidable.not_not, Int.not_lt, Int.not_le] at p35
          refine TL_take rfl rfl h35 ?_
          refine TL_q (Qt_move (.slice _ _ _) rfl) rfl ?_
          refine TL_take rfl rfl h35 ?_
          refine TL_q (Qt_len_slice rfl Tryz.underlying30) rfl ?_
          refine TL_take rfl rfl h35 ?_
          refine TL_q (Qt_eql rfl rfl) rfl ?_
          refine TL_q (Qt_pick_t (.bool _) rfl h35 rfl) rfl ?_
          refine TL_q (Qt_move (.bool _) rfl) rfl ?_
          refine TL_split 40 rfl (fun h40 => ?_) (fun h40 => ?_)
          ·
            have p40 := h40
            try simp only [decide_eq_true_eq, decide_eq_false_iff_not, Bool.not_eq_true', Bool.not_eq_false', Option.isNone_iff_eq_none, ne_eq, Decidable.not_not, Int.not_lt, Int.not_le] at p40
            refine TL_take rfl rfl h40 ?_
            refine TL_q (Qt_move (.slice _ _ _) rfl) rfl ?_
            refine TL_take rfl rfl h40 ?_
            refine TL_q (Qt_indexR rfl rfl (by omega) (by first | (simp; done) | (simp; omega))) rfl ?_
            refine TL_take rfl rfl h40 ?_
            refine TL_q (Qt_loadR (.int .u8 1) rfl (rfl)) rfl ?_
            refine TL_take rfl rfl h40 ?_
            refine TL_q (Qt_eql rfl rfl) rfl ?_
            refine TL_q (Qt_pick_t (.bool _) rfl h40 rfl) rfl ?_
            refine TL_q (Qt_move (.bool _) rfl) rfl ?_
            refine TL_split 46 rfl (fun h46 => ?_) (fun h46 => ?_)
            ·
              have p46 := h46
              try simp only [decide_eq_true_eq, decide_eq_false_iff_not, Bool.not_eq_true', Bool.not_eq_false', Option.isNone_iff_eq_none, ne_eq, Decidable.not_not, Int.not_lt, Int.not_le] at p46
              refine TL_take rfl rfl h46 ?_
              refine TL_q (Qt_move (.slice _ _ _) rfl) rfl ?_
              refine TL_take rfl rfl h46 ?_
              refine TL_q (Qt_indexR rfl rfl (by omega) (by first | (simp; done) | (simp; omega))) rfl ?_
              refine TL_take rfl rfl h46 ?_
              refine TL_q (Qt_loadR (.int .u8 1) rfl (rfl)) rfl ?_
              refine TL_take rfl rfl h46 ?_
              refine TL_q (Qt_eql rfl rfl) rfl ?_
              refine TL_q (Qt_pick_t (.bool _) rfl h46 rfl) rfl ?_
              refine TL_q (Qt_move (.bool _) rfl) rfl ?_
              refine TL_split 52 rfl (fun h52 => ?_) (fun h52 => ?_)
              ·
                have p52 := h52
                try simp only [decide_eq_true_eq, decide_eq_false_iff_not, Bool.not_eq_true', Bool.not_eq_false', Option.isNone_iff_eq_none, ne_eq, Decidable.not_not, Int.not_lt, Int.not_le] at p52
                refine TL_take rfl rfl h52 ?_
                refine TL_q (Qt_move (.slice _ _ _) rfl) rfl ?_
                refine TL_take rfl rfl h52 ?_
                refine TL_q (Qt_indexR rfl rfl (by omega) (by first | (simp; done) | (simp; omega))) rfl ?_
                refine TL_take rfl rfl h52 ?_
                refine TL_q (Qt_loadR (.int .u8 97) rfl (rfl)) rfl ?_
                refine TL_take rfl rfl h52 ?_
                refine TL_q (Qt_eql rfl rfl) rfl ?_
                refine TL_q (Qt_pick_t (.bool _) rfl h52 rfl) rfl ?_
                refine TL_q (Qt_assign (.bool _) rfl) rfl ?_
                refine TL_nil ?_
                refine X_then ?_
                refine T_ret ?_
                exact X_ret () [.bool true] Tryz.results7 ⟨congrArg Value.bool (by decide), trivial⟩ rfl (Subs.st inferInstance)
              ·
                have p52 := h52
                try simp only [decide_eq_true_eq, decide_eq_false_iff_not, Bool.not_eq_true', Bool.not_eq_false', Option.isNone_iff_eq_none, ne_eq, Decidable.not_not, Int.not_lt, Int.not_le] at p52
                exact absurd h52 (by decide)
            ·
              have p46 := h46
              try simp only [decide_eq_true_eq, decide_eq_false_iff_not, Bool.not_eq_true', Bool.not_eq_false', Option.isNone_iff_eq_none, ne_eq, Decidable.not_not, Int.not_lt, Int.not_le] at p46
              exact absurd h46 (by decide)
          ·
            have p40 := h40
            try simp only [decide_eq_true_eq, decide_eq_false_iff_not, Bool.not_eq_true', Bool.not_eq_false', Option.isNone_iff_eq_none, ne_eq, Decidable.not_not, Int.not_lt, Int.not_le] at p40
            exact absurd h40 (by simp)
        ·
          have p35 := h35
          try simp only [decide_eq_true_eq, decide_eq_false_iff_not, Bool.not_eq_true', Bool.not_eq_false', Option.isNone_iff_eq_none, ne_eq, Decidable.not_not, Int.not_lt, Int.not_le] at p35
          exact absurd h35 (by decide)
set_option maxHeartbeats 1000000 in
theorem logsNil0_c {w0 : World} {H : List SA} {a : Option Addr} {n c : Nat} {pre : ByteArray} (hs : pre.size ≤ maxLen) (hf : fineB pre = true) :
    CT Tryz.prog w0 (H) 5 [.slice a n c, .string pre] (α := Unit) (fun _ => .bool true) (fun _ => H) := by
  refine CT_intro Tryz.func5 rfl Tryz.ntmps5 rfl ?_
  refine T_seq ?_
  refine T_region ?_
  refine TL_q (Qt_assign (.bool _) rfl) rfl ?_
  refine TL_nil ?_
  refine X_then ?_
  refine T_seq ?_
  refine T_region ?_
  refine TL_q (Qt_assign (.pointer _) rfl) rfl ?_
  refine TL_nil ?_
  refine X_then ?_
  refine T_seq ?_
  refine T_seq ?_
  refine T_region ?_
  refine TL_e rfl (Ef_call (wakes11_c) rfl (fun x14 => ?_))
  refine TL_q (Qt_not rfl) rfl ?_
  refine TL_nil ?_
  refine X_then ?_
  refine T_cond_false rfl (by first | rfl | decide) ?_
  refine T_skip ?_
  refine X_then ?_
  refine T_seq ?_
  refine T_region ?_
  refine TL_q (Qt_move (.pointer _) rfl) rfl ?_
  refine TL_e rfl (Ef_call (lsyncNil_c) rfl (fun x17 => ?_))
  refine TL_nil ?_
  refine X_then ?_
  refine T_seq ?_
  refine T_region ?_
  refine TL_e rfl (Ef_call (openNil_c) rfl (fun x19 => ?_))
  refine TL_q (Qt_move (.tuple _) rfl) rfl ?_
  refine TL_q (Qt_extract rfl) rfl ?_
  refine TL_q (Qt_extract rfl) rfl ?_
  refine TL_q (Qt_extract rfl) rfl ?_
  refine TL_q (Qt_assign (.pointer _) rfl) rfl ?_
  refine TL_q (Qt_assign (.slice _ _ _) rfl) rfl ?_
  refine TL_q (Qt_assign (.int .i64 _) rfl) rfl ?_
  refine TL_nil ?_
  refine X_then ?_
  refine T_seq ?_
  refine T_region ?_
  refine TL_q (Qt_move (.string _) rfl) rfl ?_
  refine TL_q (Qt_len_string rfl Tryz.underlying9) rfl ?_
  refine TL_q (Qt_geq rfl rfl) rfl ?_
  refine TL_q (Qt_move (.bool _) rfl) rfl ?_
  refine TL_split 26 rfl (fun h26 => ?_) (fun h26 => ?_)
  ·
    have p26 := h26
    try simp only [decide_eq_true_eq, decide_eq_false_iff_not, Bool.not_eq_true', Bool.not_eq_false', Option.isNone_iff_eq_none, ne_eq, Decidable.not_not, Int.not_lt, Int.not_le] at p26
    refine TL_take rfl rfl h26 ?_
    refine TL_q (Qt_move (.string _) rfl) rfl ?_
    refine TL_take rfl rfl h26 ?_
    refine TL_q (Qt_len_string rfl Tryz.underlying9) rfl ?_
    refine TL_take rfl rfl h26 ?_
    refine TL_q (Qt_leq rfl rfl) rfl ?_
    refine TL_q (Qt_pick_t (.bool _) rfl h26 rfl) rfl ?_
    refine TL_q (Qt_assign (.bool _) rfl) rfl ?_
    refine TL_nil ?_
    refine X_then ?_
    refine T_seq ?_
    refine T_seq ?_
    refine T_region ?_
    refine TL_q (Qt_move (.string _) rfl) rfl ?_
    refine TL_q (Qt_len_string rfl Tryz.underlying9) rfl ?_
    refine TL_q (Qt_move (.int .i64 _) rfl) rfl ?_
    refine TL_nil ?_
    refine X_then ?_
    refine T_block ?_
    refine T_loop [9, 10, 33, 34, 35, 36, 37, 38, 39, 40, 41, 42, 43, 44, 45, 46, 47, 48, 49] [33, 9] (fun us H' => ∃ (k : Nat), us = [.int .i64 (k : Int), .bool (okP pre k)] ∧ H = H' ∧ k ≤ pre.size) (fun us => match us with | .int _ i :: _ => pre.size - i.toNat | _ => 0) ⟨0, by first | (rw [okP_t (by omega)]; rfl) | (rw [okP_f (by omega)]; rfl), rfl, by omega⟩ (Subs.st inferInstance) ?_
    rintro τ0 _ _  ⟨k, rfl, rfl, hk0⟩ _
    refine T_seq ?_
    refine T_region ?_
    refine TL_q (Qt_lss rfl rfl) rfl ?_
    refine TL_nil ?_
    refine X_then ?_
    refine T_seq ?_
    refine T_cond rfl (fun h34 => ?_) (fun h34 => ?_)
    ·
      have p34 := h34
      try simp only [decide_eq_true_eq, decide_eq_false_iff_not, Bool.not_eq_true', Bool.not_eq_false', Option.isNone_iff_eq_none, ne_eq, Decidable.not_not, Int.not_lt, Int.not_le] at p34
      have hk : k < pre.size := by omega
      have hs9 := hs
      unfold maxLen at hs9
      refine T_skip ?_
      refine X_then ?_
      refine T_seq ?_
      refine T_block ?_
      refine T_seq ?_
      refine T_region ?_
      refine TL_q (Qt_move (.int .i64 _) rfl) rfl ?_
      refine TL_q (Qt_assign (.int .i64 _) rfl) rfl ?_
      refine TL_nil ?_
      refine X_then ?_
      refine T_region ?_
      refine TL_q (Qt_move (.bool _) rfl) rfl ?_
      refine TL_q (Qt_move (.bool _) rfl) rfl ?_
      refine TL_split 37 rfl (fun h37 => ?_) (fun h37 => ?_)
      ·
        have p37 := h37
        try simp only [decide_eq_true_eq, decide_eq_false_iff_not, Bool.not_eq_true', Bool.not_eq_false', Option.isNone_iff_eq_none, ne_eq, Decidable.not_not, Int.not_lt, Int.not_le] at p37
        refine TL_take rfl rfl h37 ?_
        refine TL_q (Qt_move (.string _) rfl) rfl ?_
        refine TL_take rfl rfl h37 ?_
        refine TL_q (Qt_move (.int .i64 _) rfl) rfl ?_
        refine TL_take rfl rfl h37 ?_
        refine TL_q (Qt_indexS (j := k) rfl rfl Tryz.underlying9 hk) rfl ?_
        refine TL_take rfl rfl h37 ?_
        refine TL_q (Qt_geq rfl rfl) rfl ?_
        refine TL_q (Qt_pick_t (.bool _) rfl h37 rfl) rfl ?_
        refine TL_q (Qt_move (.bool _) rfl) rfl ?_
        refine TL_split 43 rfl (fun h43 => ?_) (fun h43 => ?_)
        ·
          have p43 := h43
          try simp only [decide_eq_true_eq, decide_eq_false_iff_not, Bool.not_eq_true', Bool.not_eq_false', Option.isNone_iff_eq_none, ne_eq, Decidable.not_not, Int.not_lt, Int.not_le] at p43
          refine TL_take rfl rfl h43 ?_
          refine TL_q (Qt_move (.string _) rfl) rfl ?_
          refine TL_take rfl rfl h43 ?_
          refine TL_q (Qt_move (.int .i64 _) rfl) rfl ?_
          refine TL_take rfl rfl h43 ?_
          refine TL_q (Qt_indexS (j := k) rfl rfl Tryz.underlying9 hk) rfl ?_
          refine TL_take rfl rfl h43 ?_
          refine TL_q (Qt_leq rfl rfl) rfl ?_
          refine TL_q (Qt_pick_t (.bool _) rfl h43 rfl) rfl ?_
          refine TL_q (Qt_assign (.bool _) rfl) rfl ?_
          refine TL_nil ?_
          refine X_block ?_
          refine X_then ?_
          refine T_region ?_
          first
            | refine TL_q (Qt_add rfl rfl (by omega) (by omega)) rfl ?_
            | refine TL_q (Qt_addw rfl rfl) rfl ?_
          refine TL_q (Qt_move (.int .i64 _) rfl) rfl ?_
          refine TL_nil ?_
          apply X_loop
          case ha => exact (by repeat (first | with_reducible exact agree_refl | refine agree_upd rfl ?_ | refine agree_mix rfl ?_ | refine agree_setAll rfl ?_))
          case hI => exact ⟨k + 1, by first | (rw [okA hk (by assumption) (by omega)]; rfl) | (rw [okB hk (by omega)]; rfl) | (rw [okC hk (by assumption)]; rfl), rfl, by omega⟩
          case hm => exact by show pre.size - (k + 1 : Int).toNat < pre.size - (k : Int).toNat; omega
          case hH => exact (Subs.st inferInstance)
        ·
          have p43 := h43
          try simp only [decide_eq_true_eq, decide_eq_false_iff_not, Bool.not_eq_true', Bool.not_eq_false', Option.isNone_iff_eq_none, ne_eq, Decidable.not_not, Int.not_lt, Int.not_le] at p43
          refine TL_pass rfl rfl h43 rfl ?_
          refine TL_pass rfl rfl h43 rfl ?_
          refine TL_pass rfl rfl h43 rfl ?_
          refine TL_pass rfl rfl h43 rfl ?_
          refine TL_q (Qt_pick_f (.bool _) rfl h43 rfl) rfl ?_
          refine TL_q (Qt_assign (.bool _) rfl) rfl ?_
          refine TL_nil ?_
          refine X_block ?_
          refine X_then ?_
          refine T_region ?_
          first
            | refine TL_q (Qt_add rfl rfl (by omega) (by omega)) rfl ?_
            | refine TL_q (Qt_addw rfl rfl) rfl ?_
          refine TL_q (Qt_move (.int .i64 _) rfl) rfl ?_
          refine TL_nil ?_
          apply X_loop
          case ha => exact (by repeat (first | with_reducible exact agree_refl | refine agree_upd rfl ?_ | refine agree_mix rfl ?_ | refine agree_setAll rfl ?_))
          case hI => exact ⟨k + 1, by first | (rw [okA hk (by assumption) (by omega)]; rfl) | (rw [okB hk (by omega)]; rfl) | (rw [okC hk (by assumption)]; rfl), rfl, by omega⟩
          case hm => exact by show pre.size - (k + 1 : Int).toNat < pre.size - (k : Int).toNat; omega
          case hH => exact (Subs.st inferInstance)
      ·
        have p37 := h37
        try simp only [decide_eq_true_eq, decide_eq_false_iff_not, Bool.not_eq_true', Bool.not_eq_false', Option.isNone_iff_eq_none, ne_eq, Decidable.not_not, Int.not_lt, Int.not_le] at p37
        refine TL_pass rfl rfl h37 rfl ?_
        refine TL_pass rfl rfl h37 rfl ?_
        refine TL_pass rfl rfl h37 rfl ?_
        refine TL_pass rfl rfl h37 rfl ?_
        refine TL_q (Qt_pick_f (.bool _) rfl h37 rfl) rfl ?_
        refine TL_q (Qt_move (.bool _) rfl) rfl ?_
        refine TL_pass rfl rfl rfl rfl ?_
        refine TL_pass rfl rfl rfl rfl ?_
        refine TL_pass rfl rfl rfl rfl ?_
        refine TL_pass rfl rfl rfl rfl ?_
        refine TL_q (Qt_pick_f (.bool _) rfl rfl rfl) rfl ?_
        refine TL_q (Qt_assign (.bool _) rfl) rfl ?_
        refine TL_nil ?_
        refine X_block ?_
        refine X_then ?_
        refine T_region ?_
        first
          | refine TL_q (Qt_add rfl rfl (by omega) (by omega)) rfl ?_
          | refine TL_q (Qt_addw rfl rfl) rfl ?_
        refine TL_q (Qt_move (.int .i64 _) rfl) rfl ?_
        refine TL_nil ?_
        apply X_loop
        case ha => exact (by repeat (first | with_reducible exact agree_refl | refine agree_upd rfl ?_ | refine agree_mix rfl ?_ | refine agree_setAll rfl ?_))
        case hI => exact ⟨k + 1, by first | (rw [okA hk (by assumption) (by omega)]; rfl) | (rw [okB hk (by omega)]; rfl) | (rw [okC hk (by assumption)]; rfl), rfl, by omega⟩
        case hm => exact by show pre.size - (k + 1 : Int).toNat < pre.size - (k : Int).toNat; omega
        case hH => exact (Subs.st inferInstance)
    ·
      have p34 := h34
      try simp only [decide_eq_true_eq, decide_eq_false_iff_not, Bool.not_eq_true', Bool.not_eq_false', Option.isNone_iff_eq_none, ne_eq, Decidable.not_not, Int.not_lt, Int.not_le] at p34
      have hkn : k = pre.size := by omega
      refine T_exit ?_
      refine X_then_exit ?_
      refine X_loop_exit ?_
      refine X_block_exit ?_
      refine X_then ?_
      refine T_seq ?_
      refine T_region ?_
      refine TL_e rfl (Ef_call (dnew_c (n := 9)) rfl (fun x51 => ?_))
      refine TL_q (Qt_move (.string _) rfl) rfl ?_
      have hok0 : (newS x51.2.1 x51.2.2 9).Ok 0 10000 := (newS_ok _ _ _).mono (by decide) (by decide)
      refine TL_e rfl (Ef_call (openE_c (p := x51.1) (s := (newS x51.2.1 x51.2.2 9)) hok0 (by decide) rfl (pre := pre) hs hf) rfl (fun x53 => ?_))
      refine TL_q (Qt_move (.tuple _) rfl) rfl ?_
      refine TL_q (Qt_extract rfl) rfl ?_
      refine TL_q (Qt_extract rfl) rfl ?_
      refine TL_q (Qt_extract rfl) rfl ?_
      refine TL_q (Qt_assign (.pointer _) rfl) rfl ?_
      refine TL_q (Qt_assign (.slice _ _ _) rfl) rfl ?_
      refine TL_q (Qt_assign (.int .i64 _) rfl) rfl ?_
      refine TL_nil ?_
      refine X_then ?_
      refine T_seq ?_
      refine T_region ?_
      refine TL_q (Qt_move (.pointer _) rfl) rfl ?_
      refine TL_q (Qt_move (.slice _ _ _) rfl) rfl ?_
      refine TL_e rfl (Ef_call (lappendNil_c) rfl (fun x59 => ?_))
      refine TL_q (Qt_eql rfl rfl) rfl ?_
      refine TL_q (Qt_move (.bool _) rfl) rfl ?_
      refine TL_split 61 rfl (fun h61 => ?_) (fun h61 => ?_)
      ·
        have p61 := h61
        try simp only [decide_eq_true_eq, decide_eq_false_iff_not, Bool.not_eq_true', Bool.not_eq_false', Option.isNone_iff_eq_none, ne_eq, Decidable.not_not, Int.not_lt, Int.not_le] at p61
        refine TL_take rfl rfl h61 ?_
        refine TL_q (Qt_move (.pointer _) rfl) rfl ?_
        refine TL_take rfl rfl h61 ?_
        refine TL_e rfl (Ef_call (lcutNil_c) rfl (fun x63 => ?_))
        refine TL_take rfl rfl h61 ?_
        refine TL_q (Qt_eql rfl rfl) rfl ?_
        refine TL_q (Qt_pick_t (.bool _) rfl h61 rfl) rfl ?_
        refine TL_q (Qt_move (.bool _) rfl) rfl ?_
        refine TL_split 66 rfl (fun h66 => ?_) (fun h66 => ?_)
        ·
          have p66 := h66
          try simp only [decide_eq_true_eq, decide_eq_false_iff_not, Bool.not_eq_true', Bool.not_eq_false', Option.isNone_iff_eq_none, ne_eq, Decidable.not_not, Int.not_lt, Int.not_le] at p66
          refine TL_take rfl rfl h66 ?_
          refine TL_q (Qt_move (.pointer _) rfl) rfl ?_
          refine TL_take rfl rfl h66 ?_
          refine TL_e rfl (Ef_call (lnextNil_c) rfl (fun x68 => ?_))
          refine TL_take rfl rfl h66 ?_
          refine TL_q (Qt_eql rfl rfl) rfl ?_
          refine TL_q (Qt_pick_t (.bool _) rfl h66 rfl) rfl ?_
          refine TL_q (Qt_move (.bool _) rfl) rfl ?_
          refine TL_split 71 rfl (fun h71 => ?_) (fun h71 => ?_)
          ·
            have p71 := h71
            try simp only [decide_eq_true_eq, decide_eq_false_iff_not, Bool.not_eq_true', Bool.not_eq_false', Option.isNone_iff_eq_none, ne_eq, Decidable.not_not, Int.not_lt, Int.not_le] at p71
            refine TL_take rfl rfl h71 ?_
            refine TL_q (Qt_move (.int .i64 _) rfl) rfl ?_
            refine TL_take rfl rfl h71 ?_
            refine TL_q (Qt_eql rfl rfl) rfl ?_
            refine TL_q (Qt_pick_t (.bool _) rfl h71 rfl) rfl ?_
            refine TL_q (Qt_move (.bool _) rfl) rfl ?_
            refine TL_split 75 rfl (fun h75 => ?_) (fun h75 => ?_)
            ·
              have p75 := h75
              try simp only [decide_eq_true_eq, decide_eq_false_iff_not, Bool.not_eq_true', Bool.not_eq_false', Option.isNone_iff_eq_none, ne_eq, Decidable.not_not, Int.not_lt, Int.not_le] at p75
              refine TL_take rfl rfl h75 ?_
              refine TL_q (Qt_move (.bool _) rfl) rfl ?_
              refine TL_take rfl rfl h75 ?_
              refine TL_q (Qt_move (.bool _) rfl) rfl ?_
              refine TL_split 77 rfl (fun h77 => ?_) (fun h77 => ?_)
              ·
                have p77 := h77
                try simp only [decide_eq_true_eq, decide_eq_false_iff_not, Bool.not_eq_true', Bool.not_eq_false', Option.isNone_iff_eq_none, ne_eq, Decidable.not_not, Int.not_lt, Int.not_le] at p77
                refine TL_take rfl rfl h77 ?_
                refine TL_q (Qt_move (.int .i64 _) rfl) rfl ?_
                refine TL_take rfl rfl h77 ?_
                refine TL_q (Qt_eql rfl rfl) rfl ?_
                refine TL_take rfl rfl h75 ?_
                refine TL_q (Qt_pick_t (.bool _) rfl h77 rfl) rfl ?_
                refine TL_take rfl rfl h75 ?_
                refine TL_q (Qt_move (.bool _) rfl) rfl ?_
                refine TL_split 81 rfl (fun h81 => ?_) (fun h81 => ?_)
                ·
                  have p81 := h81
                  try simp only [decide_eq_true_eq, decide_eq_false_iff_not, Bool.not_eq_true', Bool.not_eq_false', Option.isNone_iff_eq_none, ne_eq, Decidable.not_not, Int.not_lt, Int.not_le] at p81
                  refine TL_take rfl rfl h81 ?_
                  refine TL_q (Qt_move (.pointer _) rfl) rfl ?_
                  refine TL_frontA (lblk x53 x51.1 pre ⟨none, 0, [], 0, 1, false⟩) ?_
                  refine TL_take rfl rfl h81 ?_
                  refine TL_e rfl (Ef_call (lnext_c (lp := x53) (p := x51.1) (pre := pre) (t := ⟨none, 0, [], 0, 1, false⟩)) rfl (fun x83 => ?_))
                  refine TL_take rfl rfl h81 ?_
                  refine TL_q (Qt_eql rfl rfl) rfl ?_
                  refine TL_take rfl rfl h75 ?_
                  refine TL_q (Qt_pick_t (.bool _) rfl h81 rfl) rfl ?_
                  refine TL_take rfl rfl h75 ?_
                  refine TL_q (Qt_move (.bool _) rfl) rfl ?_
                  refine TL_split 86 rfl (fun h86 => ?_) (fun h86 => ?_)
                  ·
                    have p86 := h86
                    try simp only [decide_eq_true_eq, decide_eq_false_iff_not, Bool.not_eq_true', Bool.not_eq_false', Option.isNone_iff_eq_none, ne_eq, Decidable.not_not, Int.not_lt, Int.not_le] at p86
                    refine TL_pass rfl rfl h86 rfl ?_
                    refine TL_pass rfl rfl h86 rfl ?_
                    refine TL_pass rfl rfl h86 rfl ?_
                    refine TL_passU rfl rfl rfl ?_
                    refine TL_passU rfl rfl rfl ?_
                    refine TL_pass rfl rfl h86 rfl ?_
                    refine TL_pass rfl rfl h86 rfl ?_
                    refine TL_passU rfl rfl rfl ?_
                    refine TL_passU rfl rfl rfl ?_
                    refine TL_pass rfl rfl h86 rfl ?_
                    refine TL_take rfl rfl h75 ?_
                    refine TL_q (Qt_pick_t (.bool _) rfl h86 rfl) rfl ?_
                    refine TL_q (Qt_pick_t (.bool _) rfl h75 rfl) rfl ?_
                    refine TL_q (Qt_assign (.bool _) rfl) rfl ?_
                    refine TL_nil ?_
                    refine X_then ?_
                    refine T_ret ?_
                    exact X_ret () [.bool true] Tryz.results5 ⟨congrArg Value.bool (by decide), trivial⟩ rfl (Subs.st inferInstance)
                  ·
                    have p86 := h86
                    try simp only [decide_eq_true_eq, decide_eq_false_iff_not, Bool.not_eq_true', Bool.not_eq_false', Option.isNone_iff_eq_none, ne_eq, Decidable.not_not, Int.not_lt, Int.not_le] at p86
                    exact absurd h86 (by decide)
                ·
                  have p81 := h81
                  try simp only [decide_eq_true_eq, decide_eq_false_iff_not, Bool.not_eq_true', Bool.not_eq_false', Option.isNone_iff_eq_none, ne_eq, Decidable.not_not, Int.not_lt, Int.not_le] at p81
                  exact absurd h81 (by decide)
              ·
                have p77 := h77
                try simp only [decide_eq_true_eq, decide_eq_false_iff_not, Bool.not_eq_true', Bool.not_eq_false', Option.isNone_iff_eq_none, ne_eq, Decidable.not_not, Int.not_lt, Int.not_le] at p77
                exact absurd h77 (by rw [hkn, fine_ok, hf]; decide)
            ·
              have p75 := h75
              try simp only [decide_eq_true_eq, decide_eq_false_iff_not, Bool.not_eq_true', Bool.not_eq_false', Option.isNone_iff_eq_none, ne_eq, Decidable.not_not, Int.not_lt, Int.not_le] at p75
              exact absurd h75 (by decide)
          ·
            have p71 := h71
            try simp only [decide_eq_true_eq, decide_eq_false_iff_not, Bool.not_eq_true', Bool.not_eq_false', Option.isNone_iff_eq_none, ne_eq, Decidable.not_not, Int.not_lt, Int.not_le] at p71
            exact absurd h71 (by decide)
        ·
          have p66 := h66
          try simp only [decide_eq_true_eq, decide_eq_false_iff_not, Bool.not_eq_true', Bool.not_eq_false', Option.isNone_iff_eq_none, ne_eq, Decidable.not_not, Int.not_lt, Int.not_le] at p66
          exact absurd h66 (by decide)
      ·
        have p61 := h61
        try simp only [decide_eq_true_eq, decide_eq_false_iff_not, Bool.not_eq_true', Bool.not_eq_false', Option.isNone_iff_eq_none, ne_eq, Decidable.not_not, Int.not_lt, Int.not_le] at p61
        exact absurd h61 (by decide)
  ·
    have p26 := h26
    try simp only [decide_eq_true_eq, decide_eq_false_iff_not, Bool.not_eq_true', Bool.not_eq_false', Option.isNone_iff_eq_none, ne_eq, Decidable.not_not, Int.not_lt, Int.not_le] at p26
    refine TL_pass rfl rfl h26 rfl ?_
    refine TL_pass rfl rfl h26 rfl ?_
    refine TL_pass rfl rfl h26 rfl ?_
    refine TL_q (Qt_pick_f (.bool _) rfl h26 rfl) rfl ?_
    refine TL_q (Qt_assign (.bool _) rfl) rfl ?_
    refine TL_nil ?_
    refine X_then ?_
    refine T_seq ?_
    refine T_seq ?_
    refine T_region ?_
    refine TL_q (Qt_move (.string _) rfl) rfl ?_
    refine TL_q (Qt_len_string rfl Tryz.underlying9) rfl ?_
    refine TL_q (Qt_move (.int .i64 _) rfl) rfl ?_
    refine TL_nil ?_
    refine X_then ?_
    refine T_block ?_
    refine T_loop [9, 10, 33, 34, 35, 36, 37, 38, 39, 40, 41, 42, 43, 44, 45, 46, 47, 48, 49] [33, 9] (fun us H' => ∃ (k : Nat), us = [.int .i64 (k : Int), .bool (okP pre k)] ∧ H = H' ∧ k ≤ pre.size) (fun us => match us with | .int _ i :: _ => pre.size - i.toNat | _ => 0) ⟨0, by first | (rw [okP_t (by omega)]; rfl) | (rw [okP_f (by omega)]; rfl), rfl, by omega⟩ (Subs.st inferInstance) ?_
    rintro τ0 _ _  ⟨k, rfl, rfl, hk0⟩ _
    refine T_seq ?_
    refine T_region ?_
    refine TL_q (Qt_lss rfl rfl) rfl ?_
    refine TL_nil ?_
    refine X_then ?_
    refine T_seq ?_
    refine T_cond rfl (fun h34 => ?_) (fun h34 => ?_)
    ·
      have p34 := h34
      try simp only [decide_eq_true_eq, decide_eq_false_iff_not, Bool.not_eq_true', Bool.not_eq_false', Option.isNone_iff_eq_none, ne_eq, Decidable.not_not, Int.not_lt, Int.not_le] at p34
      have hk : k < pre.size := by omega
      have hs9 := hs
      unfold maxLen at hs9
      refine T_skip ?_
      refine X_then ?_
      refine T_seq ?_
      refine T_block ?_
      refine T_seq ?_
      refine T_region ?_
      refine TL_q (Qt_move (.int .i64 _) rfl) rfl ?_
      refine TL_q (Qt_assign (.int .i64 _) rfl) rfl ?_
      refine TL_nil ?_
      refine X_then ?_
      refine T_region ?_
      refine TL_q (Qt_move (.bool _) rfl) rfl ?_
      refine TL_q (Qt_move (.bool _) rfl) rfl ?_
      refine TL_split 37 rfl (fun h37 => ?_) (fun h37 => ?_)
      ·
        have p37 := h37
        try simp only [decide_eq_true_eq, decide_eq_false_iff_not, Bool.not_eq_true', Bool.not_eq_false', Option.isNone_iff_eq_none, ne_eq, Decidable.not_not, Int.not_lt, Int.not_le] at p37
        refine TL_take rfl rfl h37 ?_
        refine TL_q (Qt_move (.string _) rfl) rfl ?_
        refine TL_take rfl rfl h37 ?_
        refine TL_q (Qt_move (.int .i64 _) rfl) rfl ?_
        refine TL_take rfl rfl h37 ?_
        refine TL_q (Qt_indexS (j := k) rfl rfl Tryz.underlying9 hk) rfl ?_
        refine TL_take rfl rfl h37 ?_
        refine TL_q (Qt_geq rfl rfl) rfl ?_
        refine TL_q (Qt_pick_t (.bool _) rfl h37 rfl) rfl ?_
        refine TL_q (Qt_move (.bool _) rfl) rfl ?_
        refine TL_split 43 rfl (fun h43 => ?_) (fun h43 => ?_)
        ·
          have p43 := h43
          try simp only [decide_eq_true_eq, decide_eq_false_iff_not, Bool.not_eq_true', Bool.not_eq_false', Option.isNone_iff_eq_none, ne_eq, Decidable.not_not, Int.not_lt, Int.not_le] at p43
          refine TL_take rfl rfl h43 ?_
          refine TL_q (Qt_move (.string _) rfl) rfl ?_
          refine TL_take rfl rfl h43 ?_
          refine TL_q (Qt_move (.int .i64 _) rfl) rfl ?_
          refine TL_take rfl rfl h43 ?_
          refine TL_q (Qt_indexS (j := k) rfl rfl Tryz.underlying9 hk) rfl ?_
          refine TL_take rfl rfl h43 ?_
          refine TL_q (Qt_leq rfl rfl) rfl ?_
          refine TL_q (Qt_pick_t (.bool _) rfl h43 rfl) rfl ?_
          refine TL_q (Qt_assign (.bool _) rfl) rfl ?_
          refine TL_nil ?_
          refine X_block ?_
          refine X_then ?_
          refine T_region ?_
          first
            | refine TL_q (Qt_add rfl rfl (by omega) (by omega)) rfl ?_
            | refine TL_q (Qt_addw rfl rfl) rfl ?_
          refine TL_q (Qt_move (.int .i64 _) rfl) rfl ?_
          refine TL_nil ?_
          apply X_loop
          case ha => exact (by repeat (first | with_reducible exact agree_refl | refine agree_upd rfl ?_ | refine agree_mix rfl ?_ | refine agree_setAll rfl ?_))
          case hI => exact ⟨k + 1, by first | (rw [okA hk (by assumption) (by omega)]; rfl) | (rw [okB hk (by omega)]; rfl) | (rw [okC hk (by assumption)]; rfl), rfl, by omega⟩
          case hm => exact by show pre.size - (k + 1 : Int).toNat < pre.size - (k : Int).toNat; omega
          case hH => exact (Subs.st inferInstance)
        ·
          have p43 := h43
          try simp only [decide_eq_true_eq, decide_eq_false_iff_not, Bool.not_eq_true', Bool.not_eq_false', Option.isNone_iff_eq_none, ne_eq, Decidable.not_not, Int.not_lt, Int.not_le] at p43
          refine TL_pass rfl rfl h43 rfl ?_
          refine TL_pass rfl rfl h43 rfl ?_
          refine TL_pass rfl rfl h43 rfl ?_
          refine TL_pass rfl rfl h43 rfl ?_
          refine TL_q (Qt_pick_f (.bool _) rfl h43 rfl) rfl ?_
          refine TL_q (Qt_assign (.bool _) rfl) rfl ?_
          refine TL_nil ?_
          refine X_block ?_
          refine X_then ?_
          refine T_region ?_
          first
            | refine TL_q (Qt_add rfl rfl (by omega) (by omega)) rfl ?_
            | refine TL_q (Qt_addw rfl rfl) rfl ?_
          refine TL_q (Qt_move (.int .i64 _) rfl) rfl ?_
          refine TL_nil ?_
          apply X_loop
          case ha => exact (by repeat (first | with_reducible exact agree_refl | refine agree_upd rfl ?_ | refine agree_mix rfl ?_ | refine agree_setAll rfl ?_))
          case hI => exact ⟨k + 1, by first | (rw [okA hk (by assumption) (by omega)]; rfl) | (rw [okB hk (by omega)]; rfl) | (rw [okC hk (by assumption)]; rfl), rfl, by omega⟩
          case hm => exact by show pre.size - (k + 1 : Int).toNat < pre.size - (k : Int).toNat; omega
          case hH => exact (Subs.st inferInstance)
      ·
        have p37 := h37
        try simp only [decide_eq_true_eq, decide_eq_false_iff_not, Bool.not_eq_true', Bool.not_eq_false', Option.isNone_iff_eq_none, ne_eq, Decidable.not_not, Int.not_lt, Int.not_le] at p37
        refine TL_pass rfl rfl h37 rfl ?_
        refine TL_pass rfl rfl h37 rfl ?_
        refine TL_pass rfl rfl h37 rfl ?_
        refine TL_pass rfl rfl h37 rfl ?_
        refine TL_q (Qt_pick_f (.bool _) rfl h37 rfl) rfl ?_
        refine TL_q (Qt_move (.bool _) rfl) rfl ?_
        refine TL_pass rfl rfl rfl rfl ?_
        refine TL_pass rfl rfl rfl rfl ?_
        refine TL_pass rfl rfl rfl rfl ?_
        refine TL_pass rfl rfl rfl rfl ?_
        refine TL_q (Qt_pick_f (.bool _) rfl rfl rfl) rfl ?_
        refine TL_q (Qt_assign (.bool _) rfl) rfl ?_
        refine TL_nil ?_
        refine X_block ?_
        refine X_then ?_
        refine T_region ?_
        first
          | refine TL_q (Qt_add rfl rfl (by omega) (by omega)) rfl ?_
          | refine TL_q (Qt_addw rfl rfl) rfl ?_
        refine TL_q (Qt_move (.int .i64 _) rfl) rfl ?_
        refine TL_nil ?_
        apply X_loop
        case ha => exact (by repeat (first | with_reducible exact agree_refl | refine agree_upd rfl ?_ | refine agree_mix rfl ?_ | refine agree_setAll rfl ?_))
        case hI => exact ⟨k + 1, by first | (rw [okA hk (by assumption) (by omega)]; rfl) | (rw [okB hk (by omega)]; rfl) | (rw [okC hk (by assumption)]; rfl), rfl, by omega⟩
        case hm => exact by show pre.size - (k + 1 : Int).toNat < pre.size - (k : Int).toNat; omega
        case hH => exact (Subs.st inferInstance)
    ·
      have p34 := h34
      try simp only [decide_eq_true_eq, decide_eq_false_iff_not, Bool.not_eq_true', Bool.not_eq_false', Option.isNone_iff_eq_none, ne_eq, Decidable.not_not, Int.not_lt, Int.not_le] at p34
      have hkn : k = pre.size := by omega
      refine T_exit ?_
      refine X_then_exit ?_
      refine X_loop_exit ?_
      refine X_block_exit ?_
      refine X_then ?_
      refine T_seq ?_
      refine T_region ?_
      refine TL_e rfl (Ef_call (dnew_c (n := 9)) rfl (fun x51 => ?_))
      refine TL_q (Qt_move (.string _) rfl) rfl ?_
      have hok0 : (newS x51.2.1 x51.2.2 9).Ok 0 10000 := (newS_ok _ _ _).mono (by decide) (by decide)
      refine TL_e rfl (Ef_call (openE_c (p := x51.1) (s := (newS x51.2.1 x51.2.2 9)) hok0 (by decide) rfl (pre := pre) hs hf) rfl (fun x53 => ?_))
      refine TL_q (Qt_move (.tuple _) rfl) rfl ?_
      refine TL_q (Qt_extract rfl) rfl ?_
      refine TL_q (Qt_extract rfl) rfl ?_
      refine TL_q (Qt_extract rfl) rfl ?_
      refine TL_q (Qt_assign (.pointer _) rfl) rfl ?_
      refine TL_q (Qt_assign (.slice _ _ _) rfl) rfl ?_
      refine TL_q (Qt_assign (.int .i64 _) rfl) rfl ?_
      refine TL_nil ?_
      refine X_then ?_
      refine T_seq ?_
      refine T_region ?_
      refine TL_q (Qt_move (.pointer _) rfl) rfl ?_
      refine TL_q (Qt_move (.slice _ _ _) rfl) rfl ?_
      refine TL_e rfl (Ef_call (lappendNil_c) rfl (fun x59 => ?_))
      refine TL_q (Qt_eql rfl rfl) rfl ?_
      refine TL_q (Qt_move (.bool _) rfl) rfl ?_
      refine TL_split 61 rfl (fun h61 => ?_) (fun h61 => ?_)
      ·
        have p61 := h61
        try simp only [decide_eq_true_eq, decide_eq_false_iff_not, Bool.not_eq_true', Bool.not_eq_false', Option.isNone_iff_eq_none, ne_eq, Decidable.not_not, Int.not_lt, Int.not_le] at p61
        refine TL_take rfl rfl h61 ?_
        refine TL_q (Qt_move (.pointer _) rfl) rfl ?_
        refine TL_take rfl rfl h61 ?_
        refine TL_e rfl (Ef_call (lcutNil_c) rfl (fun x63 => ?_))
        refine TL_take rfl rfl h61 ?_
        refine TL_q (Qt_eql rfl rfl) rfl ?_
        refine TL_q (Qt_pick_t (.bool _) rfl h61 rfl) rfl ?_
        refine TL_q (Qt_move (.bool _) rfl) rfl ?_
        refine TL_split 66 rfl (fun h66 => ?_) (fun h66 => ?_)
        ·
          have p66 := h66
          try simp only [decide_eq_true_eq, decide_eq_false_iff_not, Bool.not_eq_true', Bool.not_eq_false', Option.isNone_iff_eq_none, ne_eq, Decidable.not_not, Int.not_lt, Int.not_le] at p66
          refine TL_take rfl rfl h66 ?_
          refine TL_q (Qt_move (.pointer _) rfl) rfl ?_
          refine TL_take rfl rfl h66 ?_
          refine TL_e rfl (Ef_call (lnextNil_c) rfl (fun x68 => ?_))
          refine TL_take rfl rfl h66 ?_
          refine TL_q (Qt_eql rfl rfl) rfl ?_
          refine TL_q (Qt_pick_t (.bool _) rfl h66 rfl) rfl ?_
          refine TL_q (Qt_move (.bool _) rfl) rfl ?_
          refine TL_split 71 rfl (fun h71 => ?_) (fun h71 => ?_)
          ·
            have p71 := h71
            try simp only [decide_eq_true_eq, decide_eq_false_iff_not, Bool.not_eq_true', Bool.not_eq_false', Option.isNone_iff_eq_none, ne_eq, Decidable.not_not, Int.not_lt, Int.not_le] at p71
            refine TL_take rfl rfl h71 ?_
            refine TL_q (Qt_move (.int .i64 _) rfl) rfl ?_
            refine TL_take rfl rfl h71 ?_
            refine TL_q (Qt_eql rfl rfl) rfl ?_
            refine TL_q (Qt_pick_t (.bool _) rfl h71 rfl) rfl ?_
            refine TL_q (Qt_move (.bool _) rfl) rfl ?_
            refine TL_split 75 rfl (fun h75 => ?_) (fun h75 => ?_)
            ·
              have p75 := h75
              try simp only [decide_eq_true_eq, decide_eq_false_iff_not, Bool.not_eq_true', Bool.not_eq_false', Option.isNone_iff_eq_none, ne_eq, Decidable.not_not, Int.not_lt, Int.not_le] at p75
              refine TL_take rfl rfl h75 ?_
              refine TL_q (Qt_move (.bool _) rfl) rfl ?_
              refine TL_take rfl rfl h75 ?_
              refine TL_q (Qt_move (.bool _) rfl) rfl ?_
              refine TL_split 77 rfl (fun h77 => ?_) (fun h77 => ?_)
              ·
                have p77 := h77
                try simp only [decide_eq_true_eq, decide_eq_false_iff_not, Bool.not_eq_true', Bool.not_eq_false', Option.isNone_iff_eq_none, ne_eq, Decidable.not_not, Int.not_lt, Int.not_le] at p77
                refine TL_take rfl rfl h77 ?_
                refine TL_q (Qt_move (.int .i64 _) rfl) rfl ?_
                refine TL_take rfl rfl h77 ?_
                refine TL_q (Qt_eql rfl rfl) rfl ?_
                refine TL_take rfl rfl h75 ?_
                refine TL_q (Qt_pick_t (.bool _) rfl h77 rfl) rfl ?_
                refine TL_take rfl rfl h75 ?_
                refine TL_q (Qt_move (.bool _) rfl) rfl ?_
                refine TL_split 81 rfl (fun h81 => ?_) (fun h81 => ?_)
                ·
                  have p81 := h81
                  try simp only [decide_eq_true_eq, decide_eq_false_iff_not, Bool.not_eq_true', Bool.not_eq_false', Option.isNone_iff_eq_none, ne_eq, Decidable.not_not, Int.not_lt, Int.not_le] at p81
                  refine TL_take rfl rfl h81 ?_
                  refine TL_q (Qt_move (.pointer _) rfl) rfl ?_
                  refine TL_frontA (lblk x53 x51.1 pre ⟨none, 0, [], 0, 1, false⟩) ?_
                  refine TL_take rfl rfl h81 ?_
                  refine TL_e rfl (Ef_call (lnext_c (lp := x53) (p := x51.1) (pre := pre) (t := ⟨none, 0, [], 0, 1, false⟩)) rfl (fun x83 => ?_))
                  refine TL_take rfl rfl h81 ?_
                  refine TL_q (Qt_eql rfl rfl) rfl ?_
                  refine TL_take rfl rfl h75 ?_
                  refine TL_q (Qt_pick_t (.bool _) rfl h81 rfl) rfl ?_
                  refine TL_take rfl rfl h75 ?_
                  refine TL_q (Qt_move (.bool _) rfl) rfl ?_
                  refine TL_split 86 rfl (fun h86 => ?_) (fun h86 => ?_)
                  ·
                    have p86 := h86
                    try simp only [decide_eq_true_eq, decide_eq_false_iff_not, Bool.not_eq_true', Bool.not_eq_false', Option.isNone_iff_eq_none, ne_eq, Decidable.not_not, Int.not_lt, Int.not_le] at p86
                    refine TL_pass rfl rfl h86 rfl ?_
                    refine TL_pass rfl rfl h86 rfl ?_
                    refine TL_pass rfl rfl h86 rfl ?_
                    refine TL_passU rfl rfl rfl ?_
                    refine TL_passU rfl rfl rfl ?_
                    refine TL_pass rfl rfl h86 rfl ?_
                    refine TL_pass rfl rfl h86 rfl ?_
                    refine TL_passU rfl rfl rfl ?_
                    refine TL_passU rfl rfl rfl ?_
                    refine TL_pass rfl rfl h86 rfl ?_
                    refine TL_take rfl rfl h75 ?_
                    refine TL_q (Qt_pick_t (.bool _) rfl h86 rfl) rfl ?_
                    refine TL_q (Qt_pick_t (.bool _) rfl h75 rfl) rfl ?_
                    refine TL_q (Qt_assign (.bool _) rfl) rfl ?_
                    refine TL_nil ?_
                    refine X_then ?_
                    refine T_ret ?_
                    exact X_ret () [.bool true] Tryz.results5 ⟨congrArg Value.bool (by decide), trivial⟩ rfl (Subs.st inferInstance)
                  ·
                    have p86 := h86
                    try simp only [decide_eq_true_eq, decide_eq_false_iff_not, Bool.not_eq_true', Bool.not_eq_false', Option.isNone_iff_eq_none, ne_eq, Decidable.not_not, Int.not_lt, Int.not_le] at p86
                    exact absurd h86 (by decide)
                ·
                  have p81 := h81
                  try simp only [decide_eq_true_eq, decide_eq_false_iff_not, Bool.not_eq_true', Bool.not_eq_false', Option.isNone_iff_eq_none, ne_eq, Decidable.not_not, Int.not_lt, Int.not_le] at p81
                  exact absurd h81 (by decide)
              ·
                have p77 := h77
                try simp only [decide_eq_true_eq, decide_eq_false_iff_not, Bool.not_eq_true', Bool.not_eq_false', Option.isNone_iff_eq_none, ne_eq, Decidable.not_not, Int.not_lt, Int.not_le] at p77
                exact absurd h77 (by rw [hkn, fine_ok, hf]; decide)
            ·
              have p75 := h75
              try simp only [decide_eq_true_eq, decide_eq_false_iff_not, Bool.not_eq_true', Bool.not_eq_false', Option.isNone_iff_eq_none, ne_eq, Decidable.not_not, Int.not_lt, Int.not_le] at p75
              exact absurd h75 (by decide)
          ·
            have p71 := h71
            try simp only [decide_eq_true_eq, decide_eq_false_iff_not, Bool.not_eq_true', Bool.not_eq_false', Option.isNone_iff_eq_none, ne_eq, Decidable.not_not, Int.not_lt, Int.not_le] at p71
            exact absurd h71 (by decide)
        ·
          have p66 := h66
          try simp only [decide_eq_true_eq, decide_eq_false_iff_not, Bool.not_eq_true', Bool.not_eq_false', Option.isNone_iff_eq_none, ne_eq, Decidable.not_not, Int.not_lt, Int.not_le] at p66
          exact absurd h66 (by decide)
      ·
        have p61 := h61
        try simp only [decide_eq_true_eq, decide_eq_false_iff_not, Bool.not_eq_true', Bool.not_eq_false', Option.isNone_iff_eq_none, ne_eq, Decidable.not_not, Int.not_lt, Int.not_le] at p61
        exact absurd h61 (by decide)
set_option maxHeartbeats 1000000 in
theorem logsNil1_c {w0 : World} {H : List SA} {a : Option Addr} {n c : Nat} {pre : ByteArray} (hs : pre.size ≤ maxLen) (hf : fineB pre = false) :
    CT Tryz.prog w0 (H) 5 [.slice a n c, .string pre] (α := Unit) (fun _ => .bool true) (fun _ => H) := by
  refine CT_intro Tryz.func5 rfl Tryz.ntmps5 rfl ?_
  refine T_seq ?_
  refine T_region ?_
  refine TL_q (Qt_assign (.bool _) rfl) rfl ?_
  refine TL_nil ?_
  refine X_then ?_
  refine T_seq ?_
  refine T_region ?_
  refine TL_q (Qt_assign (.pointer _) rfl) rfl ?_
  refine TL_nil ?_
  refine X_then ?_
  refine T_seq ?_
  refine T_seq ?_
  refine T_region ?_
  refine TL_e rfl (Ef_call (wakes11_c) rfl (fun x14 => ?_))
  refine TL_q (Qt_not rfl) rfl ?_
  refine TL_nil ?_
  refine X_then ?_
  refine T_cond_false rfl (by first | rfl | decide) ?_
  refine T_skip ?_
  refine X_then ?_
  refine T_seq ?_
  refine T_region ?_
  refine TL_q (Qt_move (.pointer _) rfl) rfl ?_
  refine TL_e rfl (Ef_call (lsyncNil_c) rfl (fun x17 => ?_))
  refine TL_nil ?_
  refine X_then ?_
  refine T_seq ?_
  refine T_region ?_
  refine TL_e rfl (Ef_call (openNil_c) rfl (fun x19 => ?_))
  refine TL_q (Qt_move (.tuple _) rfl) rfl ?_
  refine TL_q (Qt_extract rfl) rfl ?_
  refine TL_q (Qt_extract rfl) rfl ?_
  refine TL_q (Qt_extract rfl) rfl ?_
  refine TL_q (Qt_assign (.pointer _) rfl) rfl ?_
  refine TL_q (Qt_assign (.slice _ _ _) rfl) rfl ?_
  refine TL_q (Qt_assign (.int .i64 _) rfl) rfl ?_
  refine TL_nil ?_
  refine X_then ?_
  refine T_seq ?_
  refine T_region ?_
  refine TL_q (Qt_move (.string _) rfl) rfl ?_
  refine TL_q (Qt_len_string rfl Tryz.underlying9) rfl ?_
  refine TL_q (Qt_geq rfl rfl) rfl ?_
  refine TL_q (Qt_move (.bool _) rfl) rfl ?_
  refine TL_split 26 rfl (fun h26 => ?_) (fun h26 => ?_)
  ·
    have p26 := h26
    try simp only [decide_eq_true_eq, decide_eq_false_iff_not, Bool.not_eq_true', Bool.not_eq_false', Option.isNone_iff_eq_none, ne_eq, Decidable.not_not, Int.not_lt, Int.not_le] at p26
    refine TL_take rfl rfl h26 ?_
    refine TL_q (Qt_move (.string _) rfl) rfl ?_
    refine TL_take rfl rfl h26 ?_
    refine TL_q (Qt_len_string rfl Tryz.underlying9) rfl ?_
    refine TL_take rfl rfl h26 ?_
    refine TL_q (Qt_leq rfl rfl) rfl ?_
    refine TL_q (Qt_pick_t (.bool _) rfl h26 rfl) rfl ?_
    refine TL_q (Qt_assign (.bool _) rfl) rfl ?_
    refine TL_nil ?_
    refine X_then ?_
    refine T_seq ?_
    refine T_seq ?_
    refine T_region ?_
    refine TL_q (Qt_move (.string _) rfl) rfl ?_
    refine TL_q (Qt_len_string rfl Tryz.underlying9) rfl ?_
    refine TL_q (Qt_move (.int .i64 _) rfl) rfl ?_
    refine TL_nil ?_
    refine X_then ?_
    refine T_block ?_
    refine T_loop [9, 10, 33, 34, 35, 36, 37, 38, 39, 40, 41, 42, 43, 44, 45, 46, 47, 48, 49] [33, 9] (fun us H' => ∃ (k : Nat), us = [.int .i64 (k : Int), .bool (okP pre k)] ∧ H = H' ∧ k ≤ pre.size) (fun us => match us with | .int _ i :: _ => pre.size - i.toNat | _ => 0) ⟨0, by first | (rw [okP_t (by omega)]; rfl) | (rw [okP_f (by omega)]; rfl), rfl, by omega⟩ (Subs.st inferInstance) ?_
    rintro τ0 _ _  ⟨k, rfl, rfl, hk0⟩ _
    refine T_seq ?_
    refine T_region ?_
    refine TL_q (Qt_lss rfl rfl) rfl ?_
    refine TL_nil ?_
    refine X_then ?_
    refine T_seq ?_
    refine T_cond rfl (fun h34 => ?_) (fun h34 => ?_)
    ·
      have p34 := h34
      try simp only [decide_eq_true_eq, decide_eq_false_iff_not, Bool.not_eq_true', Bool.not_eq_false', Option.isNone_iff_eq_none, ne_eq, Decidable.not_not, Int.not_lt, Int.not_le] at p34
      have hk : k < pre.size := by omega
      have hs9 := hs
      unfold maxLen at hs9
      refine T_skip ?_
      refine X_then ?_
      refine T_seq ?_
      refine T_block ?_
      refine T_seq ?_
      refine T_region ?_
      refine TL_q (Qt_move (.int .i64 _) rfl) rfl ?_
      refine TL_q (Qt_assign (.int .i64 _) rfl) rfl ?_
      refine TL_nil ?_
      refine X_then ?_
      refine T_region ?_
      refine TL_q (Qt_move (.bool _) rfl) rfl ?_
      refine TL_q (Qt_move (.bool _) rfl) rfl ?_
      refine TL_split 37 rfl (fun h37 => ?_) (fun h37 => ?_)
      ·
        have p37 := h37
        try simp only [decide_eq_true_eq, decide_eq_false_iff_not, Bool.not_eq_true', Bool.not_eq_false', Option.isNone_iff_eq_none, ne_eq, Decidable.not_not, Int.not_lt, Int.not_le] at p37
        refine TL_take rfl rfl h37 ?_
        refine TL_q (Qt_move (.string _) rfl) rfl ?_
        refine TL_take rfl rfl h37 ?_
        refine TL_q (Qt_move (.int .i64 _) rfl) rfl ?_
        refine TL_take rfl rfl h37 ?_
        refine TL_q (Qt_indexS (j := k) rfl rfl Tryz.underlying9 hk) rfl ?_
        refine TL_take rfl rfl h37 ?_
        refine TL_q (Qt_geq rfl rfl) rfl ?_
        refine TL_q (Qt_pick_t (.bool _) rfl h37 rfl) rfl ?_
        refine TL_q (Qt_move (.bool _) rfl) rfl ?_
        refine TL_split 43 rfl (fun h43 => ?_) (fun h43 => ?_)
        ·
          have p43 := h43
          try simp only [decide_eq_true_eq, decide_eq_false_iff_not, Bool.not_eq_true', Bool.not_eq_false', Option.isNone_iff_eq_none, ne_eq, Decidable.not_not, Int.not_lt, Int.not_le] at p43
          refine TL_take rfl rfl h43 ?_
          refine TL_q (Qt_move (.string _) rfl) rfl ?_
          refine TL_take rfl rfl h43 ?_
          refine TL_q (Qt_move (.int .i64 _) rfl) rfl ?_
          refine TL_take rfl rfl h43 ?_
          refine TL_q (Qt_indexS (j := k) rfl rfl Tryz.underlying9 hk) rfl ?_
          refine TL_take rfl rfl h43 ?_
          refine TL_q (Qt_leq rfl rfl) rfl ?_
          refine TL_q (Qt_pick_t (.bool _) rfl h43 rfl) rfl ?_
          refine TL_q (Qt_assign (.bool _) rfl) rfl ?_
          refine TL_nil ?_
          refine X_block ?_
          refine X_then ?_
          refine T_region ?_
          first
            | refine TL_q (Qt_add rfl rfl (by omega) (by omega)) rfl ?_
            | refine TL_q (Qt_addw rfl rfl) rfl ?_
          refine TL_q (Qt_move (.int .i64 _) rfl) rfl ?_
          refine TL_nil ?_
          apply X_loop
          case ha => exact (by repeat (first | with_reducible exact agree_refl | refine agree_upd rfl ?_ | refine agree_mix rfl ?_ | refine agree_setAll rfl ?_))
          case hI => exact ⟨k + 1, by first | (rw [okA hk (by assumption) (by omega)]; rfl) | (rw [okB hk (by omega)]; rfl) | (rw [okC hk (by assumption)]; rfl), rfl, by omega⟩
          case hm => exact by show pre.size - (k + 1 : Int).toNat < pre.size - (k : Int).toNat; omega
          case hH => exact (Subs.st inferInstance)
        ·
          have p43 := h43
          try simp only [decide_eq_true_eq, decide_eq_false_iff_not, Bool.not_eq_true', Bool.not_eq_false', Option.isNone_iff_eq_none, ne_eq, Decidable.not_not, Int.not_lt, Int.not_le] at p43
          refine TL_pass rfl rfl h43 rfl ?_
          refine TL_pass rfl rfl h43 rfl ?_
          refine TL_pass rfl rfl h43 rfl ?_
          refine TL_pass rfl rfl h43 rfl ?_
          refine TL_q (Qt_pick_f (.bool _) rfl h43 rfl) rfl ?_
          refine TL_q (Qt_assign (.bool _) rfl) rfl ?_
          refine TL_nil ?_
          refine X_block ?_
          refine X_then ?_
          refine T_region ?_
          first
            | refine TL_q (Qt_add rfl rfl (by omega) (by omega)) rfl ?_
            | refine TL_q (Qt_addw rfl rfl) rfl ?_
          refine TL_q (Qt_move (.int .i64 _) rfl) rfl ?_
          refine TL_nil ?_
          apply X_loop
          case ha => exact (by repeat (first | with_reducible exact agree_refl | refine agree_upd rfl ?_ | refine agree_mix rfl ?_ | refine agree_setAll rfl ?_))
          case hI => exact ⟨k + 1, by first | (rw [okA hk (by assumption) (by omega)]; rfl) | (rw [okB hk (by omega)]; rfl) | (rw [okC hk (by assumption)]; rfl), rfl, by omega⟩
          case hm => exact by show pre.size - (k + 1 : Int).toNat < pre.size - (k : Int).toNat; omega
          case hH => exact (Subs.st inferInstance)
      ·
        have p37 := h37
        try simp only [decide_eq_true_eq, decide_eq_false_iff_not, Bool.not_eq_true', Bool.not_eq_false', Option.isNone_iff_eq_none, ne_eq, Decidable.not_not, Int.not_lt, Int.not_le] at p37
        refine TL_pass rfl rfl h37 rfl ?_
        refine TL_pass rfl rfl h37 rfl ?_
        refine TL_pass rfl rfl h37 rfl ?_
        refine TL_pass rfl rfl h37 rfl ?_
        refine TL_q (Qt_pick_f (.bool _) rfl h37 rfl) rfl ?_
        refine TL_q (Qt_move (.bool _) rfl) rfl ?_
        refine TL_pass rfl rfl rfl rfl ?_
        refine TL_pass rfl rfl rfl rfl ?_
        refine TL_pass rfl rfl rfl rfl ?_
        refine TL_pass rfl rfl rfl rfl ?_
        refine TL_q (Qt_pick_f (.bool _) rfl rfl rfl) rfl ?_
        refine TL_q (Qt_assign (.bool _) rfl) rfl ?_
        refine TL_nil ?_
        refine X_block ?_
        refine X_then ?_
        refine T_region ?_
        first
          | refine TL_q (Qt_add rfl rfl (by omega) (by omega)) rfl ?_
          | refine TL_q (Qt_addw rfl rfl) rfl ?_
        refine TL_q (Qt_move (.int .i64 _) rfl) rfl ?_
        refine TL_nil ?_
        apply X_loop
        case ha => exact (by repeat (first | with_reducible exact agree_refl | refine agree_upd rfl ?_ | refine agree_mix rfl ?_ | refine agree_setAll rfl ?_))
        case hI => exact ⟨k + 1, by first | (rw [okA hk (by assumption) (by omega)]; rfl) | (rw [okB hk (by omega)]; rfl) | (rw [okC hk (by assumption)]; rfl), rfl, by omega⟩
        case hm => exact by show pre.size - (k + 1 : Int).toNat < pre.size - (k : Int).toNat; omega
        case hH => exact (Subs.st inferInstance)
    ·
      have p34 := h34
      try simp only [decide_eq_true_eq, decide_eq_false_iff_not, Bool.not_eq_true', Bool.not_eq_false', Option.isNone_iff_eq_none, ne_eq, Decidable.not_not, Int.not_lt, Int.not_le] at p34
      have hkn : k = pre.size := by omega
      refine T_exit ?_
      refine X_then_exit ?_
      refine X_loop_exit ?_
      refine X_block_exit ?_
      refine X_then ?_
      refine T_seq ?_
      refine T_region ?_
      refine TL_e rfl (Ef_call (dnew_c (n := 9)) rfl (fun x51 => ?_))
      refine TL_q (Qt_move (.string _) rfl) rfl ?_
      have hok0 : (newS x51.2.1 x51.2.2 9).Ok 0 10000 := (newS_ok _ _ _).mono (by decide) (by decide)
      refine TL_e rfl (Ef_call (openBad_c (p := x51.1) hs hf) rfl (fun x53 => ?_))
      refine TL_q (Qt_move (.tuple _) rfl) rfl ?_
      refine TL_q (Qt_extract rfl) rfl ?_
      refine TL_q (Qt_extract rfl) rfl ?_
      refine TL_q (Qt_extract rfl) rfl ?_
      refine TL_q (Qt_assign (.pointer _) rfl) rfl ?_
      refine TL_q (Qt_assign (.slice _ _ _) rfl) rfl ?_
      refine TL_q (Qt_assign (.int .i64 _) rfl) rfl ?_
      refine TL_nil ?_
      refine X_then ?_
      refine T_seq ?_
      refine T_region ?_
      refine TL_q (Qt_move (.pointer _) rfl) rfl ?_
      refine TL_q (Qt_move (.slice _ _ _) rfl) rfl ?_
      refine TL_e rfl (Ef_call (lappendNil_c) rfl (fun x59 => ?_))
      refine TL_q (Qt_eql rfl rfl) rfl ?_
      refine TL_q (Qt_move (.bool _) rfl) rfl ?_
      refine TL_split 61 rfl (fun h61 => ?_) (fun h61 => ?_)
      ·
        have p61 := h61
        try simp only [decide_eq_true_eq, decide_eq_false_iff_not, Bool.not_eq_true', Bool.not_eq_false', Option.isNone_iff_eq_none, ne_eq, Decidable.not_not, Int.not_lt, Int.not_le] at p61
        refine TL_take rfl rfl h61 ?_
        refine TL_q (Qt_move (.pointer _) rfl) rfl ?_
        refine TL_take rfl rfl h61 ?_
        refine TL_e rfl (Ef_call (lcutNil_c) rfl (fun x63 => ?_))
        refine TL_take rfl rfl h61 ?_
        refine TL_q (Qt_eql rfl rfl) rfl ?_
        refine TL_q (Qt_pick_t (.bool _) rfl h61 rfl) rfl ?_
        refine TL_q (Qt_move (.bool _) rfl) rfl ?_
        refine TL_split 66 rfl (fun h66 => ?_) (fun h66 => ?_)
        ·
          have p66 := h66
          try simp only [decide_eq_true_eq, decide_eq_false_iff_not, Bool.not_eq_true', Bool.not_eq_false', Option.isNone_iff_eq_none, ne_eq, Decidable.not_not, Int.not_lt, Int.not_le] at p66
          refine TL_take rfl rfl h66 ?_
          refine TL_q (Qt_move (.pointer _) rfl) rfl ?_
          refine TL_take rfl rfl h66 ?_
          refine TL_e rfl (Ef_call (lnextNil_c) rfl (fun x68 => ?_))
          refine TL_take rfl rfl h66 ?_
          refine TL_q (Qt_eql rfl rfl) rfl ?_
          refine TL_q (Qt_pick_t (.bool _) rfl h66 rfl) rfl ?_
          refine TL_q (Qt_move (.bool _) rfl) rfl ?_
          refine TL_split 71 rfl (fun h71 => ?_) (fun h71 => ?_)
          ·
            have p71 := h71
            try simp only [decide_eq_true_eq, decide_eq_false_iff_not, Bool.not_eq_true', Bool.not_eq_false', Option.isNone_iff_eq_none, ne_eq, Decidable.not_not, Int.not_lt, Int.not_le] at p71
            refine TL_take rfl rfl h71 ?_
            refine TL_q (Qt_move (.int .i64 _) rfl) rfl ?_
            refine TL_take rfl rfl h71 ?_
            refine TL_q (Qt_eql rfl rfl) rfl ?_
            refine TL_q (Qt_pick_t (.bool _) rfl h71 rfl) rfl ?_
            refine TL_q (Qt_move (.bool _) rfl) rfl ?_
            refine TL_split 75 rfl (fun h75 => ?_) (fun h75 => ?_)
            ·
              have p75 := h75
              try simp only [decide_eq_true_eq, decide_eq_false_iff_not, Bool.not_eq_true', Bool.not_eq_false', Option.isNone_iff_eq_none, ne_eq, Decidable.not_not, Int.not_lt, Int.not_le] at p75
              refine TL_take rfl rfl h75 ?_
              refine TL_q (Qt_move (.bool _) rfl) rfl ?_
              refine TL_take rfl rfl h75 ?_
              refine TL_q (Qt_move (.bool _) rfl) rfl ?_
              refine TL_split 77 rfl (fun h77 => ?_) (fun h77 => ?_)
              ·
                have p77 := h77
                try simp only [decide_eq_true_eq, decide_eq_false_iff_not, Bool.not_eq_true', Bool.not_eq_false', Option.isNone_iff_eq_none, ne_eq, Decidable.not_not, Int.not_lt, Int.not_le] at p77
                exact absurd h77 (by rw [hkn, fine_ok, hf]; decide)
              ·
                have p77 := h77
                try simp only [decide_eq_true_eq, decide_eq_false_iff_not, Bool.not_eq_true', Bool.not_eq_false', Option.isNone_iff_eq_none, ne_eq, Decidable.not_not, Int.not_lt, Int.not_le] at p77
                refine TL_pass rfl rfl h77 rfl ?_
                refine TL_pass rfl rfl h77 rfl ?_
                refine TL_take rfl rfl h75 ?_
                refine TL_q (Qt_pick_f (.bool _) rfl h77 rfl) rfl ?_
                refine TL_take rfl rfl h75 ?_
                refine TL_q (Qt_move (.bool _) rfl) rfl ?_
                refine TL_pass rfl rfl rfl rfl ?_
                refine TL_pass rfl rfl rfl rfl ?_
                refine TL_pass rfl rfl rfl rfl ?_
                refine TL_take rfl rfl h75 ?_
                refine TL_q (Qt_pick_f (.bool _) rfl rfl rfl) rfl ?_
                refine TL_take rfl rfl h75 ?_
                refine TL_q (Qt_move (.bool _) rfl) rfl ?_
                refine TL_take rfl rfl rfl ?_
                refine TL_q (Qt_move (.bool _) rfl) rfl ?_
                refine TL_take rfl rfl rfl ?_
                refine TL_q (Qt_not rfl) rfl ?_
                refine TL_take rfl rfl rfl ?_
                refine TL_q (Qt_move (.bool _) rfl) rfl ?_
                refine TL_split 89 rfl (fun h89 => ?_) (fun h89 => ?_)
                ·
                  have p89 := h89
                  try simp only [decide_eq_true_eq, decide_eq_false_iff_not, Bool.not_eq_true', Bool.not_eq_false', Option.isNone_iff_eq_none, ne_eq, Decidable.not_not, Int.not_lt, Int.not_le] at p89
                  refine TL_take rfl rfl h89 ?_
                  refine TL_q (Qt_move (.int .i64 _) rfl) rfl ?_
                  refine TL_take rfl rfl h89 ?_
                  refine TL_q (Qt_eql rfl rfl) rfl ?_
                  refine TL_take rfl rfl rfl ?_
                  refine TL_q (Qt_pick_t (.bool _) rfl h89 rfl) rfl ?_
                  refine TL_take rfl rfl rfl ?_
                  refine TL_q (Qt_move (.bool _) rfl) rfl ?_
                  refine TL_split 93 rfl (fun h93 => ?_) (fun h93 => ?_)
                  ·
                    have p93 := h93
                    try simp only [decide_eq_true_eq, decide_eq_false_iff_not, Bool.not_eq_true', Bool.not_eq_false', Option.isNone_iff_eq_none, ne_eq, Decidable.not_not, Int.not_lt, Int.not_le] at p93
                    refine TL_take rfl rfl h93 ?_
                    refine TL_q (Qt_move (.pointer _) rfl) rfl ?_
                    refine TL_take rfl rfl h93 ?_
                    refine TL_q (Qt_ptr_nil rfl rfl Tryz.underlying26) rfl ?_
                    refine TL_take rfl rfl rfl ?_
                    refine TL_q (Qt_pick_t (.bool _) rfl h93 rfl) rfl ?_
                    refine TL_take rfl rfl h75 ?_
                    refine TL_q (Qt_pick_f (.bool _) rfl rfl rfl) rfl ?_
                    refine TL_q (Qt_pick_t (.bool _) rfl h75 rfl) rfl ?_
                    refine TL_q (Qt_assign (.bool _) rfl) rfl ?_
                    refine TL_nil ?_
                    refine X_then ?_
                    refine T_ret ?_
                    exact X_ret () [.bool true] Tryz.results5 ⟨congrArg Value.bool (by decide), trivial⟩ rfl (Subs.st inferInstance)
                  ·
                    have p93 := h93
                    try simp only [decide_eq_true_eq, decide_eq_false_iff_not, Bool.not_eq_true', Bool.not_eq_false', Option.isNone_iff_eq_none, ne_eq, Decidable.not_not, Int.not_lt, Int.not_le] at p93
                    exact absurd h93 (by decide)
                ·
                  have p89 := h89
                  try simp only [decide_eq_true_eq, decide_eq_false_iff_not, Bool.not_eq_true', Bool.not_eq_false', Option.isNone_iff_eq_none, ne_eq, Decidable.not_not, Int.not_lt, Int.not_le] at p89
                  exact absurd h89 (by rw [hkn, fine_ok, hf]; decide)
            ·
              have p75 := h75
              try simp only [decide_eq_true_eq, decide_eq_false_iff_not, Bool.not_eq_true', Bool.not_eq_false', Option.isNone_iff_eq_none, ne_eq, Decidable.not_not, Int.not_lt, Int.not_le] at p75
              exact absurd h75 (by decide)
          ·
            have p71 := h71
            try simp only [decide_eq_true_eq, decide_eq_false_iff_not, Bool.not_eq_true', Bool.not_eq_false', Option.isNone_iff_eq_none, ne_eq, Decidable.not_not, Int.not_lt, Int.not_le] at p71
            exact absurd h71 (by decide)
        ·
          have p66 := h66
          try simp only [decide_eq_true_eq, decide_eq_false_iff_not, Bool.not_eq_true', Bool.not_eq_false', Option.isNone_iff_eq_none, ne_eq, Decidable.not_not, Int.not_lt, Int.not_le] at p66
          exact absurd h66 (by decide)
      ·
        have p61 := h61
        try simp only [decide_eq_true_eq, decide_eq_false_iff_not, Bool.not_eq_true', Bool.not_eq_false', Option.isNone_iff_eq_none, ne_eq, Decidable.not_not, Int.not_lt, Int.not_le] at p61
        exact absurd h61 (by decide)
  ·
    have p26 := h26
    try simp only [decide_eq_true_eq, decide_eq_false_iff_not, Bool.not_eq_true', Bool.not_eq_false', Option.isNone_iff_eq_none, ne_eq, Decidable.not_not, Int.not_lt, Int.not_le] at p26
    refine TL_pass rfl rfl h26 rfl ?_
    refine TL_pass rfl rfl h26 rfl ?_
    refine TL_pass rfl rfl h26 rfl ?_
    refine TL_q (Qt_pick_f (.bool _) rfl h26 rfl) rfl ?_
    refine TL_q (Qt_assign (.bool _) rfl) rfl ?_
    refine TL_nil ?_
    refine X_then ?_
    refine T_seq ?_
    refine T_seq ?_
    refine T_region ?_
    refine TL_q (Qt_move (.string _) rfl) rfl ?_
    refine TL_q (Qt_len_string rfl Tryz.underlying9) rfl ?_
    refine TL_q (Qt_move (.int .i64 _) rfl) rfl ?_
    refine TL_nil ?_
    refine X_then ?_
    refine T_block ?_
    refine T_loop [9, 10, 33, 34, 35, 36, 37, 38, 39, 40, 41, 42, 43, 44, 45, 46, 47, 48, 49] [33, 9] (fun us H' => ∃ (k : Nat), us = [.int .i64 (k : Int), .bool (okP pre k)] ∧ H = H' ∧ k ≤ pre.size) (fun us => match us with | .int _ i :: _ => pre.size - i.toNat | _ => 0) ⟨0, by first | (rw [okP_t (by omega)]; rfl) | (rw [okP_f (by omega)]; rfl), rfl, by omega⟩ (Subs.st inferInstance) ?_
    rintro τ0 _ _  ⟨k, rfl, rfl, hk0⟩ _
    refine T_seq ?_
    refine T_region ?_
    refine TL_q (Qt_lss rfl rfl) rfl ?_
    refine TL_nil ?_
    refine X_then ?_
    refine T_seq ?_
    refine T_cond rfl (fun h34 => ?_) (fun h34 => ?_)
    ·
      have p34 := h34
      try simp only [decide_eq_true_eq, decide_eq_false_iff_not, Bool.not_eq_true', Bool.not_eq_false', Option.isNone_iff_eq_none, ne_eq, Decidable.not_not, Int.not_lt, Int.not_le] at p34
      have hk : k < pre.size := by omega
      have hs9 := hs
      unfold maxLen at hs9
      refine T_skip ?_
      refine X_then ?_
      refine T_seq ?_
      refine T_block ?_
      refine T_seq ?_
      refine T_region ?_
      refine TL_q (Qt_move (.int .i64 _) rfl) rfl ?_
      refine TL_q (Qt_assign (.int .i64 _) rfl) rfl ?_
      refine TL_nil ?_
      refine X_then ?_
      refine T_region ?_
      refine TL_q (Qt_move (.bool _) rfl) rfl ?_
      refine TL_q (Qt_move (.bool _) rfl) rfl ?_
      refine TL_split 37 rfl (fun h37 => ?_) (fun h37 => ?_)
      ·
        have p37 := h37
        try simp only [decide_eq_true_eq, decide_eq_false_iff_not, Bool.not_eq_true', Bool.not_eq_false', Option.isNone_iff_eq_none, ne_eq, Decidable.not_not, Int.not_lt, Int.not_le] at p37
        refine TL_take rfl rfl h37 ?_
        refine TL_q (Qt_move (.string _) rfl) rfl ?_
        refine TL_take rfl rfl h37 ?_
        refine TL_q (Qt_move (.int .i64 _) rfl) rfl ?_
        refine TL_take rfl rfl h37 ?_
        refine TL_q (Qt_indexS (j := k) rfl rfl Tryz.underlying9 hk) rfl ?_
        refine TL_take rfl rfl h37 ?_
        refine TL_q (Qt_geq rfl rfl) rfl ?_
        refine TL_q (Qt_pick_t (.bool _) rfl h37 rfl) rfl ?_
        refine TL_q (Qt_move (.bool _) rfl) rfl ?_
        refine TL_split 43 rfl (fun h43 => ?_) (fun h43 => ?_)
        ·
          have p43 := h43
          try simp only [decide_eq_true_eq, decide_eq_false_iff_not, Bool.not_eq_true', Bool.not_eq_false', Option.isNone_iff_eq_none, ne_eq, Decidable.not_not, Int.not_lt, Int.not_le] at p43
          refine TL_take rfl rfl h43 ?_
          refine TL_q (Qt_move (.string _) rfl) rfl ?_
          refine TL_take rfl rfl h43 ?_
          refine TL_q (Qt_move (.int .i64 _) rfl) rfl ?_
          refine TL_take rfl rfl h43 ?_
          refine TL_q (Qt_indexS (j := k) rfl rfl Tryz.underlying9 hk) rfl ?_
          refine TL_take rfl rfl h43 ?_
          refine TL_q (Qt_leq rfl rfl) rfl ?_
          refine TL_q (Qt_pick_t (.bool _) rfl h43 rfl) rfl ?_
          refine TL_q (Qt_assign (.bool _) rfl) rfl ?_
          refine TL_nil ?_
          refine X_block ?_
          refine X_then ?_
          refine T_region ?_
          first
            | refine TL_q (Qt_add rfl rfl (by omega) (by omega)) rfl ?_
            | refine TL_q (Qt_addw rfl rfl) rfl ?_
          refine TL_q (Qt_move (.int .i64 _) rfl) rfl ?_
          refine TL_nil ?_
          apply X_loop
          case ha => exact (by repeat (first | with_reducible exact agree_refl | refine agree_upd rfl ?_ | refine agree_mix rfl ?_ | refine agree_setAll rfl ?_))
          case hI => exact ⟨k + 1, by first | (rw [okA hk (by assumption) (by omega)]; rfl) | (rw [okB hk (by omega)]; rfl) | (rw [okC hk (by assumption)]; rfl), rfl, by omega⟩
          case hm => exact by show pre.size - (k + 1 : Int).toNat < pre.size - (k : Int).toNat; omega
          case hH => exact (Subs.st inferInstance)
        ·
          have p43 := h43
          try simp only [decide_eq_true_eq, decide_eq_false_iff_not, Bool.not_eq_true', Bool.not_eq_false', Option.isNone_iff_eq_none, ne_eq, Decidable.not_not, Int.not_lt, Int.not_le] at p43
          refine TL_pass rfl rfl h43 rfl ?_
          refine TL_pass rfl rfl h43 rfl ?_
          refine TL_pass rfl rfl h43 rfl ?_
          refine TL_pass rfl rfl h43 rfl ?_
          refine TL_q (Qt_pick_f (.bool _) rfl h43 rfl) rfl ?_
          refine TL_q (Qt_assign (.bool _) rfl) rfl ?_
          refine TL_nil ?_
          refine X_block ?_
          refine X_then ?_
          refine T_region ?_
          first
            | refine TL_q (Qt_add rfl rfl (by omega) (by omega)) rfl ?_
            | refine TL_q (Qt_addw rfl rfl) rfl ?_
          refine TL_q (Qt_move (.int .i64 _) rfl) rfl ?_
          refine TL_nil ?_
          apply X_loop
          case ha => exact (by repeat (first | with_reducible exact agree_refl | refine agree_upd rfl ?_ | refine agree_mix rfl ?_ | refine agree_setAll rfl ?_))
          case hI => exact ⟨k + 1, by first | (rw [okA hk (by assumption) (by omega)]; rfl) | (rw [okB hk (by omega)]; rfl) | (rw [okC hk (by assumption)]; rfl), rfl, by omega⟩
          case hm => exact by show pre.size - (k + 1 : Int).toNat < pre.size - (k : Int).toNat; omega
          case hH => exact (Subs.st inferInstance)
      ·
        have p37 := h37
        try simp only [decide_eq_true_eq, decide_eq_false_iff_not, Bool.not_eq_true', Bool.not_eq_false', Option.isNone_iff_eq_none, ne_eq, Decidable.not_not, Int.not_lt, Int.not_le] at p37
        refine TL_pass rfl rfl h37 rfl ?_
        refine TL_pass rfl rfl h37 rfl ?_
        refine TL_pass rfl rfl h37 rfl ?_
        refine TL_pass rfl rfl h37 rfl ?_
        refine TL_q (Qt_pick_f (.bool _) rfl h37 rfl) rfl ?_
        refine TL_q (Qt_move (.bool _) rfl) rfl ?_
        refine TL_pass rfl rfl rfl rfl ?_
        refine TL_pass rfl rfl rfl rfl ?_
        refine TL_pass rfl rfl rfl rfl ?_
        refine TL_pass rfl rfl rfl rfl ?_
        refine TL_q (Qt_pick_f (.bool _) rfl rfl rfl) rfl ?_
        refine TL_q (Qt_assign (.bool _) rfl) rfl ?_
        refine TL_nil ?_
        refine X_block ?_
        refine X_then ?_
        refine T_region ?_
        first
          | refine TL_q (Qt_add rfl rfl (by omega) (by omega)) rfl ?_
          | refine TL_q (Qt_addw rfl rfl) rfl ?_
        refine TL_q (Qt_move (.int .i64 _) rfl) rfl ?_
        refine TL_nil ?_
        apply X_loop
        case ha => exact (by repeat (first | with_reducible exact agree_refl | refine agree_upd rfl ?_ | refine agree_mix rfl ?_ | refine agree_setAll rfl ?_))
        case hI => exact ⟨k + 1, by first | (rw [okA hk (by assumption) (by omega)]; rfl) | (rw [okB hk (by omega)]; rfl) | (rw [okC hk (by assumption)]; rfl), rfl, by omega⟩
        case hm => exact by show pre.size - (k + 1 : Int).toNat < pre.size - (k : Int).toNat; omega
        case hH => exact (Subs.st inferInstance)
    ·
      have p34 := h34
      try simp only [decide_eq_true_eq, decide_eq_false_iff_not, Bool.not_eq_true', Bool.not_eq_false', Option.isNone_iff_eq_none, ne_eq, Decidable.not_not, Int.not_lt, Int.not_le] at p34
      have hkn : k = pre.size := by omega
      refine T_exit ?_
      refine X_then_exit ?_
      refine X_loop_exit ?_
      refine X_block_exit ?_
      refine X_then ?_
      refine T_seq ?_
      refine T_region ?_
      refine TL_e rfl (Ef_call (dnew_c (n := 9)) rfl (fun x51 => ?_))
      refine TL_q (Qt_move (.string _) rfl) rfl ?_
      have hok0 : (newS x51.2.1 x51.2.2 9).Ok 0 10000 := (newS_ok _ _ _).mono (by decide) (by decide)
      refine TL_e rfl (Ef_call (openBad_c (p := x51.1) hs hf) rfl (fun x53 => ?_))
      refine TL_q (Qt_move (.tuple _) rfl) rfl ?_
      refine TL_q (Qt_extract rfl) rfl ?_
      refine TL_q (Qt_extract rfl) rfl ?_
      refine TL_q (Qt_extract rfl) rfl ?_
      refine TL_q (Qt_assign (.pointer _) rfl) rfl ?_
      refine TL_q (Qt_assign (.slice _ _ _) rfl) rfl ?_
      refine TL_q (Qt_assign (.int .i64 _) rfl) rfl ?_
      refine TL_nil ?_
      refine X_then ?_
      refine T_seq ?_
      refine T_region ?_
      refine TL_q (Qt_move (.pointer _) rfl) rfl ?_
      refine TL_q (Qt_move (.slice _ _ _) rfl) rfl ?_
      refine TL_e rfl (Ef_call (lappendNil_c) rfl (fun x59 => ?_))
      refine TL_q (Qt_eql rfl rfl) rfl ?_
      refine TL_q (Qt_move (.bool _) rfl) rfl ?_
      refine TL_split 61 rfl (fun h61 => ?_) (fun h61 => ?_)
      ·
        have p61 := h61
        try simp only [decide_eq_true_eq, decide_eq_false_iff_not, Bool.not_eq_true', Bool.not_eq_false', Option.isNone_iff_eq_none, ne_eq, Decidable.not_not, Int.not_lt, Int.not_le] at p61
        refine TL_take rfl rfl h61 ?_
        refine TL_q (Qt_move (.pointer _) rfl) rfl ?_
        refine TL_take rfl rfl h61 ?_
        refine TL_e rfl (Ef_call (lcutNil_c) rfl (fun x63 => ?_))
        refine TL_take rfl rfl h61 ?_
        refine TL_q (Qt_eql rfl rfl) rfl ?_
        refine TL_q (Qt_pick_t (.bool _) rfl h61 rfl) rfl ?_
        refine TL_q (Qt_move (.bool _) rfl) rfl ?_
        refine TL_split 66 rfl (fun h66 => ?_) (fun h66 => ?_)
        ·
          have p66 := h66
          try simp only [decide_eq_true_eq, decide_eq_false_iff_not, Bool.not_eq_true', Bool.not_eq_false', Option.isNone_iff_eq_none, ne_eq, Decidable.not_not, Int.not_lt, Int.not_le] at p66
          refine TL_take rfl rfl h66 ?_
          refine TL_q (Qt_move (.pointer _) rfl) rfl ?_
          refine TL_take rfl rfl h66 ?_
          refine TL_e rfl (Ef_call (lnextNil_c) rfl (fun x68 => ?_))
          refine TL_take rfl rfl h66 ?_
          refine TL_q (Qt_eql rfl rfl) rfl ?_
          refine TL_q (Qt_pick_t (.bool _) rfl h66 rfl) rfl ?_
          refine TL_q (Qt_move (.bool _) rfl) rfl ?_
          refine TL_split 71 rfl (fun h71 => ?_) (fun h71 => ?_)
          ·
            have p71 := h71
            try simp only [decide_eq_true_eq, decide_eq_false_iff_not, Bool.not_eq_true', Bool.not_eq_false', Option.isNone_iff_eq_none, ne_eq, Decidable.not_not, Int.not_lt, Int.not_le] at p71
            refine TL_take rfl rfl h71 ?_
            refine TL_q (Qt_move (.int .i64 _) rfl) rfl ?_
            refine TL_take rfl rfl h71 ?_
            refine TL_q (Qt_eql rfl rfl) rfl ?_
            refine TL_q (Qt_pick_t (.bool _) rfl h71 rfl) rfl ?_
            refine TL_q (Qt_move (.bool _) rfl) rfl ?_
            refine TL_split 75 rfl (fun h75 => ?_) (fun h75 => ?_)
            ·
              have p75 := h75
              try simp only [decide_eq_true_eq, decide_eq_false_iff_not, Bool.not_eq_true', Bool.not_eq_false', Option.isNone_iff_eq_none, ne_eq, Decidable.not_not, Int.not_lt, Int.not_le] at p75
              refine TL_take rfl rfl h75 ?_
              refine TL_q (Qt_move (.bool _) rfl) rfl ?_
              refine TL_take rfl rfl h75 ?_
              refine TL_q (Qt_move (.bool _) rfl) rfl ?_
              refine TL_split 77 rfl (fun h77 => ?_) (fun h77 => ?_)
              ·
                have p77 := h77
                try simp only [decide_eq_true_eq, decide_eq_false_iff_not, Bool.not_eq_true', Bool.not_eq_false', Option.isNone_iff_eq_none, ne_eq, Decidable.not_not, Int.not_lt, Int.not_le] at p77
                exact absurd h77 (by rw [hkn, fine_ok, hf]; decide)
              ·
                have p77 := h77
                try simp only [decide_eq_true_eq, decide_eq_false_iff_not, Bool.not_eq_true', Bool.not_eq_false', Option.isNone_iff_eq_none, ne_eq, Decidable.not_not, Int.not_lt, Int.not_le] at p77
                refine TL_pass rfl rfl h77 rfl ?_
                refine TL_pass rfl rfl h77 rfl ?_
                refine TL_take rfl rfl h75 ?_
                refine TL_q (Qt_pick_f (.bool _) rfl h77 rfl) rfl ?_
                refine TL_take rfl rfl h75 ?_
                refine TL_q (Qt_move (.bool _) rfl) rfl ?_
                refine TL_pass rfl rfl rfl rfl ?_
                refine TL_pass rfl rfl rfl rfl ?_
                refine TL_pass rfl rfl rfl rfl ?_
                refine TL_take rfl rfl h75 ?_
                refine TL_q (Qt_pick_f (.bool _) rfl rfl rfl) rfl ?_
                refine TL_take rfl rfl h75 ?_
                refine TL_q (Qt_move (.bool _) rfl) rfl ?_
                refine TL_take rfl rfl rfl ?_
                refine TL_q (Qt_move (.bool _) rfl) rfl ?_
                refine TL_take rfl rfl rfl ?_
                refine TL_q (Qt_not rfl) rfl ?_
                refine TL_take rfl rfl rfl ?_
                refine TL_q (Qt_move (.bool _) rfl) rfl ?_
                refine TL_split 89 rfl (fun h89 => ?_) (fun h89 => ?_)
                ·
                  have p89 := h89
                  try simp only [decide_eq_true_eq, decide_eq_false_iff_not, Bool.not_eq_true', Bool.not_eq_false', Option.isNone_iff_eq_none, ne_eq, Decidable.not_not, Int.not_lt, Int.not_le] at p89
                  refine TL_take rfl rfl h89 ?_
                  refine TL_q (Qt_move (.int .i64 _) rfl) rfl ?_
                  refine TL_take rfl rfl h89 ?_
                  refine TL_q (Qt_eql rfl rfl) rfl ?_
                  refine TL_take rfl rfl rfl ?_
                  refine TL_q (Qt_pick_t (.bool _) rfl h89 rfl) rfl ?_
                  refine TL_take rfl rfl rfl ?_
                  refine TL_q (Qt_move (.bool _) rfl) rfl ?_
                  refine TL_split 93 rfl (fun h93 => ?_) (fun h93 => ?_)
                  ·
                    have p93 := h93
                    try simp only [decide_eq_true_eq, decide_eq_false_iff_not, Bool.not_eq_true', Bool.not_eq_false', Option.isNone_iff_eq_none, ne_eq, Decidable.not_not, Int.not_lt, Int.not_le] at p93
                    refine TL_take rfl rfl h93 ?_
                    refine TL_q (Qt_move (.pointer _) rfl) rfl ?_
                    refine TL_take rfl rfl h93 ?_
                    refine TL_q (Qt_ptr_nil rfl rfl Tryz.underlying26) rfl ?_
                    refine TL_take rfl rfl rfl ?_
                    refine TL_q (Qt_pick_t (.bool _) rfl h93 rfl) rfl ?_
                    refine TL_take rfl rfl h75 ?_
                    refine TL_q (Qt_pick_f (.bool _) rfl rfl rfl) rfl ?_
                    refine TL_q (Qt_pick_t (.bool _) rfl h75 rfl) rfl ?_
                    refine TL_q (Qt_assign (.bool _) rfl) rfl ?_
                    refine TL_nil ?_
                    refine X_then ?_
                    refine T_ret ?_
                    exact X_ret () [.bool true] Tryz.results5 ⟨congrArg Value.bool (by decide), trivial⟩ rfl (Subs.st inferInstance)
                  ·
                    have p93 := h93
                    try simp only [decide_eq_true_eq, decide_eq_false_iff_not, Bool.not_eq_true', Bool.not_eq_false', Option.isNone_iff_eq_none, ne_eq, Decidable.not_not, Int.not_lt, Int.not_le] at p93
                    exact absurd h93 (by decide)
                ·
                  have p89 := h89
                  try simp only [decide_eq_true_eq, decide_eq_false_iff_not, Bool.not_eq_true', Bool.not_eq_false', Option.isNone_iff_eq_none, ne_eq, Decidable.not_not, Int.not_lt, Int.not_le] at p89
                  exact absurd h89 (by rw [hkn, fine_ok, hf]; decide)
            ·
              have p75 := h75
              try simp only [decide_eq_true_eq, decide_eq_false_iff_not, Bool.not_eq_true', Bool.not_eq_false', Option.isNone_iff_eq_none, ne_eq, Decidable.not_not, Int.not_lt, Int.not_le] at p75
              exact absurd h75 (by decide)
          ·
            have p71 := h71
            try simp only [decide_eq_true_eq, decide_eq_false_iff_not, Bool.not_eq_true', Bool.not_eq_false', Option.isNone_iff_eq_none, ne_eq, Decidable.not_not, Int.not_lt, Int.not_le] at p71
            exact absurd h71 (by decide)
        ·
          have p66 := h66
          try simp only [decide_eq_true_eq, decide_eq_false_iff_not, Bool.not_eq_true', Bool.not_eq_false', Option.isNone_iff_eq_none, ne_eq, Decidable.not_not, Int.not_lt, Int.not_le] at p66
          exact absurd h66 (by decide)
      ·
        have p61 := h61
        try simp only [decide_eq_true_eq, decide_eq_false_iff_not, Bool.not_eq_true', Bool.not_eq_false', Option.isNone_iff_eq_none, ne_eq, Decidable.not_not, Int.not_lt, Int.not_le] at p61
        exact absurd h61 (by decide)
theorem logsNil_c {w0 : World} {H : List SA} {a : Option Addr} {n c : Nat} {pre : ByteArray} (hs : pre.size ≤ maxLen) : CT Tryz.prog w0 H 5 [.slice a n c, .string pre] (α := Unit) (fun _ => .bool true) (fun _ => H) := by
  cases hf : fineB pre
  · exact logsNil1_c hs hf
  · exact logsNil0_c hs hf
end Go.Proofs.YtgfbdcjamalhhaaGreatDoor
