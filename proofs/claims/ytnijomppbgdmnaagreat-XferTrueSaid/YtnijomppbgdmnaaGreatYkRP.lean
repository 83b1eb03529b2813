/- Walk of package xfer: the best world. -/
import Derived.Test.YtnijomppbgdmnaaGreatSgP
import Derived.Test.YtnijomppbgdmnaaGreatYiRP
set_option linter.unusedSimpArgs false
set_option linter.unusedVariables false
namespace Go.Proofs.YtnijomppbgdmnaaGreat
section
open Go.RowKit Go.Sx
set_option maxRecDepth 100000
set_option maxHeartbeats 1000000
theorem flat_part {α : Type} (f : α → List Value) (m : Nat) (hf : ∀ x, (f x).length = m) (l : List α) (i : Nat) (hi : i < l.length) (a n : Nat) (h : a + n ≤ m) : ((l.flatMap f).drop (i * m + a)).take n = ((f l[i]).drop a).take n := by
 have h1 := flat_slice f m hf l i hi
 rw [← h1, List.drop_take, List.take_take, List.drop_drop, Nat.min_eq_left (by omega)]
theorem flat_pos {α : Type} (f : α → List Value) (m : Nat) (hf : ∀ x, (f x).length = m) (h0 : 0 < m) (l : List α) {i : Nat} (hi : i < l.length) : 0 < (l.flatMap f).length := by
 rw [flat_len f m hf]; exact Nat.mul_pos (by omega) h0
theorem kept_pos {ks : List KeptV} {i : Nat} (hi : i < ks.length) : 0 < (ks.flatMap KeptV.list).length := flat_pos _ 135 KeptV.list_len (by decide) ks hi
theorem kept_slot (ks : List KeptV) (i : Nat) (hi : i < ks.length) : (ks.flatMap KeptV.list)[i * 135 + 0]? = some (.int .i64 ks[i].w.slot) := by rw [flat_get KeptV.list 135 KeptV.list_len ks i 0 hi (by decide)]; rfl
theorem kept_w (ks : List KeptV) (i : Nat) (hi : i < ks.length) : ((ks.flatMap KeptV.list).drop (i * 135 + 0)).take 68 = ks[i].w.list := by
 rw [flat_part KeptV.list 135 KeptV.list_len ks i hi 0 68 (by decide), List.drop_zero]
 unfold KeptV.list
 rw [List.take_append_of_le_length (by rw [WorldV.list_len]; decide)]
 exact List.take_of_length_le (by rw [WorldV.list_len]; decide)
theorem kept_last (ks : List KeptV) (i : Nat) (hi : i < ks.length) : ((ks.flatMap KeptV.list).drop (i * 135 + 68)).take 35 = ks[i].last.list := by
 rw [flat_part KeptV.list 135 KeptV.list_len ks i hi 68 35 (by decide)]
 unfold KeptV.list
 rw [List.drop_append, List.drop_of_length_le (by rw [WorldV.list_len]; decide), WorldV.list_len, List.nil_append, Nat.sub_self, List.drop_zero, List.take_append_of_le_length (by rw [SlotV.list_len]; decide)]
 exact List.take_of_length_le (by rw [SlotV.list_len]; decide)
instance kept_cell {v : KeptV} : CellAt v.cells 0 (.int .i64 v.w.slot) := ⟨by simp [KeptV.cells, KeptV.list, WorldV.list]⟩
theorem row_ptr {w : World} {a : Option Addr} {n c sz : Nat} {xs : List Value} (h : CellsAt w (.slice a n c) sz xs) (hpos : 0 < xs.length) (j : Nat) : ∃ a0, ptrOf (.slice a n c) j = some a0 := by
 obtain ⟨b, o, -, hp⟩ := ptrOf_add h hpos j
 exact ⟨_, hp⟩
def bptr (v : Value) : Option Nat → Option Addr
 | none => none
 | some j => ptrOf v (j * 135)
def BestK (num : Int) (mk : Nat) (M : List MkD) (ks : List KeptV) (k : Nat) : Option Nat → Prop
 | none => ∀ (i : Nat) (hi : i < ks.length), i < k → ¬ Qual num mk M ks[i].w
 | some j => ∃ hj : j < ks.length, Qual num mk M ks[j].w ∧ ∀ (i : Nat) (hi : i < ks.length), i < k → Qual num mk M ks[i].w → ks[i].w.slot ≤ ks[j].w.slot
theorem BestK.skip {num : Int} {mk : Nat} {M : List MkD} {ks : List KeptV} {k : Nat} {o : Option Nat} (hk : k < ks.length) (h : BestK num mk M ks k o) (hn : ¬ Qual num mk M ks[k].w) : BestK num mk M ks (k + 1) o := by
 cases o with
 | none => intro i hi hik; rcases Nat.lt_or_ge i k with h1 | h1; exact h i hi h1; obtain rfl : i = k := (by omega); exact hn
 | some j =>
  obtain ⟨hj, h1, h2⟩ := h
  refine ⟨hj, h1, fun i hi hik hq => ?_⟩
  rcases Nat.lt_or_ge i k with h3 | h3
  · exact h2 i hi h3 hq
  · obtain rfl : i = k := (by omega); exact absurd hq hn
theorem BestK.first {num : Int} {mk : Nat} {M : List MkD} {ks : List KeptV} {k : Nat} (hk : k < ks.length) (h : BestK num mk M ks k none) (hq : Qual num mk M ks[k].w) : BestK num mk M ks (k + 1) (some k) := by
 refine ⟨hk, hq, fun i hi hik hqi => ?_⟩
 rcases Nat.lt_or_ge i k with h3 | h3
 · exact absurd hqi (h i hi h3)
 · obtain rfl : i = k := (by omega); exact Int.le_refl _
theorem BestK.up {num : Int} {mk : Nat} {M : List MkD} {ks : List KeptV} {k j : Nat} (hk : k < ks.length) (hj : j < ks.length) (h : BestK num mk M ks k (some j)) (hq : Qual num mk M ks[k].w) (hg : ks[j].w.slot < ks[k].w.slot) : BestK num mk M ks (k + 1) (some k) := by
 obtain ⟨hj, h1, h2⟩ := h
 refine ⟨hk, hq, fun i hi hik hqi => ?_⟩
 rcases Nat.lt_or_ge i k with h3 | h3
 · have := h2 i hi h3 hqi; omega
 · obtain rfl : i = k := (by omega); exact Int.le_refl _
theorem BestK.keep {num : Int} {mk : Nat} {M : List MkD} {ks : List KeptV} {k j : Nat} (hk : k < ks.length) (hj : j < ks.length) (h : BestK num mk M ks k (some j)) (hg : ¬ ks[j].w.slot < ks[k].w.slot) : BestK num mk M ks (k + 1) (some j) := by
 obtain ⟨hj, h1, h2⟩ := h
 refine ⟨hj, h1, fun i hi hik hqi => ?_⟩
 rcases Nat.lt_or_ge i k with h3 | h3
 · exact h2 i hi h3 hqi
 · obtain rfl : i = k := (by omega); omega
structure BestR where
 w : WorldV
 last : SlotV
 is : Bool
def BestP (num : Int) (mk : Nat) (M : List MkD) (ks : List KeptV) (y : BestR) : Prop :=
 (y.is = false → y.w = WorldV.zero ∧ ∀ k ∈ ks, ¬ Qual num mk M k.w) ∧ (y.is = true → ∃ k ∈ ks, y.w = k.w ∧ y.last.n = k.last.n ∧ Qual num mk M k.w ∧ ∀ k' ∈ ks, Qual num mk M k'.w → k'.w.slot ≤ k.w.slot)
theorem BestP.no {num : Int} {mk : Nat} {M : List MkD} {ks : List KeptV} {s : SlotV} (h : BestK num mk M ks ks.length none) : BestP num mk M ks ⟨WorldV.zero, s, false⟩ :=
 ⟨fun _ => ⟨rfl, fun k hk => by obtain ⟨i, hi, rfl⟩ := List.getElem_of_mem hk; exact h i hi hi⟩, fun h => (by cases h)⟩
theorem BestP.yes {num : Int} {mk : Nat} {M : List MkD} {ks : List KeptV} {s : SlotV} {j : Nat} (hj : j < ks.length) (h : BestK num mk M ks ks.length (some j)) (hs : s.n = ks[j].last.n) : BestP num mk M ks ⟨ks[j].w, s, true⟩ := by
 obtain ⟨hj, h1, h2⟩ := h
 exact ⟨fun h => (by cases h), fun _ => ⟨ks[j], List.getElem_mem hj, rfl, hs, h1, fun k' hk' hq => by obtain ⟨i, hi, rfl⟩ := List.getElem_of_mem hk'; exact h2 i hi hi hq⟩⟩
attribute [local irreducible] someV mskM digW
theorem bestX_c {w0 : World} {H : List SA} {p r2 d : Nat} {num : Int} {mk : Nat} (hmk : mk < 65536) {had : Int} {mr : Option Nat} {fk : KeysV} {la : Option Addr} {lc : Nat} {ks : List KeptV} {M : List MkD} {ts : TMX} [hm : Mem w0 H p (.cells (FetchV.mk fk (ViewV.mk num (mk : Int)) had mr (some r2) ⟨la, ks.length, lc⟩).cells 111 (0, 0))] [hw : Mem w0 H r2 (mapO encKt encU ts d)] [hk : RdC w0 H (.slice la ks.length lc) 135 (ks.flatMap KeptV.list)] (ht : ∀ t : TallyV, (getE ts t).getD 0 = mskM M t.slot t.hash) (hM : OkM M) (hK : KeptOK had ks) (hrb : ∀ k ∈ ks, RdB w0 H (.slice k.last.batch.a k.last.batch.l.length k.last.batch.c) k.last.batch.l) (hrp : ∀ k ∈ ks, RdC w0 H (.slice k.last.parts.a k.last.parts.ls.length k.last.parts.c) 1 (k.last.parts.ls.map BS.val)) (hre : ∀ k ∈ ks, RdE w0 H k.last.parts.ls) :
 CT Tryz.prog w0 (H) 19 [.pointer (some ⟨p, 0, none⟩)] (α := BestR) (fun y => .tuple #[.agg y.w.cells, .agg y.last.cells, .bool y.is]) (fun y => pu (BestP num mk M ks y) :: H) := by
 have hlen := hK.len
 refine CT_intro Tryz.func19 rfl Tryz.ntmps19 rfl (T2 (ze rfl (Ef_allocN (fun b2 => ?_))))
 refine ze rfl (Ef_allocN (fun b3 => ?_))
 refine Qab rfl rfl (TX (zS (T2 (zy (zm (.pointer _) rfl) (zy (Qt_ptr_nil rfl rfl Tryz.underlying48) (TX (T_cond_false rfl (by first | rfl | decide) (S4 (zy (za (.pointer _) rfl) (TX (zS (T2 (zy (zm (.pointer _) rfl) (zy (Qt_nilCheck rfl) (zy (zf 7 rfl rfl) (zy (zl rfl) (zy (zL rfl Tryz.underlying109) (Qmi rfl rfl ?_))))))))))))))))))
 refine TX (zB ?_)
 refine T_loop [5, 6, 7, 8, 9, 20, 21, 22, 23, 24, 25, 26, 27, 28, 29, 30, 31, 32, 33, 34, 35, 36, 37, 38, 39, 40, 41, 42, 43, 44, 45, 46, 47, 48, 49, 50, 51, 52, 53, 54, 55, 56, 57, 58, 59, 60, 61, 62, 63, 64, 65, 66, 67, 68] [20, 5] (fun us H' => ∃ (k : Nat) (o : Option Nat), us = [.int .i64 (k : Int), .pointer (bptr (.slice la ks.length lc) o)] ∧ blk b2 (.cells WorldV.zero.cells 67 (0, 0)) :: blk b3 (.cells SlotV.zero.cells 69 (0, 0)) :: H = H' ∧ k ≤ ks.length ∧ (BestK num mk M ks k o)) (fun us => match us with | .int _ i :: _ => ks.length - i.toNat | _ => 0) ⟨0, none, rfl, rfl, by omega, fun i hi h => by omega⟩ SB ?_
 rintro τ0 _ _  ⟨k, o, rfl, rfl, hk0, hbs⟩ _
 refine T2 (zy (Qt_lss rfl rfl) (TX (zS (zC rfl (fun h21 => ?_) (fun h21 => ?_)))))
 ·
  have p21 := cL h21
  have hkk : k < ks.length := by omega
  refine zk (zx (zS (zB (T2 (Qmi rfl rfl (zy (Qt_indexN rfl rfl (by omega) (by omega)) (zy (Qt_val (Qt_loadRN 135 ks[k].list rfl (flat_slice _ 135 KeptV.list_len ks k hkk) (KeptV.list_len _) (by decide)) (show Value.agg ks[k].list.toArray = Value.agg ks[k].cells from rfl)) (ze rfl (Ef_allocN (fun b7 => ?_))))))))))
  refine Qai rfl rfl (zN (zs rfl rfl (T4 (zy (zm (.pointer _) rfl) (zy (Qt_nilCheck rfl) (zy (zf 2 rfl rfl) (zy (zn rfl rfl) (ze rfl (zc (some_v (num := num) hmk) rfl (fun x29 => ?_))))))))))
  refine Qai rfl rfl (TX (zS (zS (zD (blk b7 (.cells ks[k].cells 119 (0, 0)) :: H) [(0, true), (1, true), (2, true), (3, true), (4, true), (5, true), (6, true), (7, true), (8, true), (9, true), (10, true), (11, false), (12, true)] SB (fun hns0 => ?_)))))
  refine zd hns0 rfl (zm (.pointer _) rfl) rfl (zd hns0 rfl (Qt_nilCheck rfl) rfl (zd hns0 rfl (zf 6 rfl rfl) rfl (zd hns0 rfl (zl rfl) rfl (zd hns0 rfl (zf 0 rfl rfl) rfl (zd hns0 rfl (zf 0 rfl rfl) rfl (zd hns0 rfl (zl rfl) rfl (zd hns0 rfl (zf 103 rfl rfl) rfl (zd hns0 rfl (zn rfl rfl) rfl (zd hns0 rfl (Qt_val (zw [(0, .int .i64 _), (1, .agg _)] rfl) (show _ = Value.agg (TallyV.mk ks[k].w.slot ks[k].hash).cells from rfl)) rfl (zd hns0 rfl (Qt_lookup1 (key := (TallyV.mk ks[k].w.slot ks[k].hash)) (enc := encKt) (ev := encU) ((0 : Nat)) rfl rfl Tryz.underlying108 ((inferInstance : TyZ Tryz.prog 22 (.int .u16 0)).ok)) rfl ?_))))))))))
  rw [ht]
  refine DL_e rfl rfl (zc (ones_c (n := mskM M ks[k].w.slot ks[k].hash) (mskM_lt hM _ _)) rfl (fun x41 => ⟨SB, ?_⟩))
  rw [mskM_ones hM, hK.hash _ (List.getElem_mem hkk), show (M.filter (hitM ks[k].w.slot (digW ks[k].w))).length = cntM M ks[k].w from rfl]
  refine zd hns0 rfl (za (.int .i64 _) rfl) rfl (DL_nil (zx (T2 (Qmi rfl rfl (zy (Qt_eql rfl rfl) (Qmb rfl rfl (TL_split 44 rfl (fun h44 => ?_) (fun h44 => ?_))))))))
  ·
   have p44 := cL h44
   refine zp rfl rfl h44 rfl (zp rfl rfl h44 rfl (zp rfl rfl h44 rfl (zy (zT (.bool _) rfl h44 rfl) (TX (T_cond_true rfl rfl ?_)))))
   have hnq : ¬ Qual num mk M ks[k].w := by rintro ⟨h1, -⟩; omega
   have hnext := BestK.skip hkk hbs hnq
   refine zY (zG (zE (zx (zR (zy (zj rfl rfl) (Qmi rfl rfl (zz ?_)))))))
   apply X_loop
   case ha => exact zA
   case hI => exact ⟨k + 1, _, rfl, rfl, by omega, hnext⟩
   case hm => exact by show ks.length - (k + 1 : Int).toNat < ks.length - (k : Int).toNat; omega
   case hH => exact SB
  have p44 := cL h44
  refine zt rfl rfl h44 (Qmi rfl rfl (zt rfl rfl h44 (Qmi rfl rfl (zt rfl rfl h44 (zy (Qt_lss rfl rfl) (zy (zF (.bool _) rfl h44 rfl) (TX (zC rfl (fun h48 => ?_) (fun h48 => ?_)))))))))
  ·
   have p48 := cL h48
   have hnq : ¬ Qual num mk M ks[k].w := by rintro ⟨-, h2⟩; omega
   have hnext := BestK.skip hkk hbs hnq
   refine zY (zG (zE (zx (zR (zy (zj rfl rfl) (Qmi rfl rfl (zz ?_)))))))
   apply X_loop
   case ha => exact zA
   case hI => exact ⟨k + 1, _, rfl, rfl, by omega, hnext⟩
   case hm => exact by show ks.length - (k + 1 : Int).toNat < ks.length - (k : Int).toNat; omega
   case hH => exact SB
  have p48 := cL h48
  have hq : Qual num mk M ks[k].w := ⟨by omega, by omega⟩
  refine zk (zx (zS (zD (blk b7 (.cells ks[k].cells 119 (0, 0)) :: H) [(0, true), (1, true), (2, true), (3, true), (4, true), (5, true), (6, true), (7, true), (8, true), (9, true), (10, true), (11, true), (12, true)] SB (fun hns1 => ?_))))
  rcases o with _ | j
  ·
   refine zd hns1 rfl (zm (.pointer _) rfl) rfl (zd hns1 rfl (Qt_ptr_nil rfl rfl Tryz.underlying134) rfl (zd hns1 rfl (zm (.bool _) rfl) rfl (DL_split 51 rfl (fun h51 => ?_) (fun h51 => ?_))))
   ·
    have p51 := cL h51
    refine DL_pass hns1 rfl rfl rfl h51 rfl (DL_pass hns1 rfl rfl rfl h51 rfl (DL_pass hns1 rfl rfl rfl h51 rfl (DL_pass hns1 rfl rfl rfl h51 rfl (DL_pass hns1 rfl rfl rfl h51 rfl (DL_pass hns1 rfl rfl rfl h51 rfl (DL_pass hns1 rfl rfl rfl h51 rfl (DL_pass hns1 rfl rfl rfl h51 rfl (DL_pass hns1 rfl rfl rfl h51 rfl (zd hns1 rfl (zT (.bool _) rfl h51 rfl) rfl (DL_nil (zx (T_cond_true rfl rfl ?_))))))))))))
    have hnext := BestK.first hkk hbs hq
    refine zR (zy (zm (.pointer _) rfl) (zy (Qt_nilCheck rfl) (zy (zf 7 rfl rfl) (zy (zl rfl) (Qmi rfl rfl (zy (Qt_indexN rfl rfl (by omega) (by omega)) (zy (za (.pointer _) rfl) (zz (X_block (zx (zR ?_)))))))))))
    refine zy (zj rfl rfl) (Qmi rfl rfl (zz ?_))
    apply X_loop
    case ha => exact zA
    case hI => exact ⟨k + 1, _, rfl, rfl, by omega, hnext⟩
    case hm => exact by show ks.length - (k + 1 : Int).toNat < ks.length - (k : Int).toNat; omega
    case hH => exact SB
   have p51 := cL h51
   cases h51
  obtain ⟨hj, -, -⟩ := id hbs
  refine DL_know (fun w hw => row_ptr (hk.rd w (SB w hw : St w0 H w)) (kept_pos hj) (j * 135)) (fun hpj => ?_)
  obtain ⟨a0, hpj⟩ := hpj
  refine zd hns1 rfl (zm (.pointer _) rfl) rfl (zd hns1 rfl (Qt_ptr_nil rfl rfl Tryz.underlying134) rfl (zd hns1 rfl (zm (.bool _) rfl) rfl (DL_split 51 rfl (fun h51 => ?_) (fun h51 => ?_))))
  ·
   have p51 := cL h51
   rw [show (bptr (.slice la ks.length lc) (some j)) = some a0 from hpj] at h51
   cases h51
  have p51 := cL h51
  refine DL_qg hns1 rfl rfl rfl h51 (zf 0 rfl rfl) rfl (DL_qg hns1 rfl rfl rfl h51 (zf 0 rfl rfl) rfl (DL_qg hns1 rfl rfl rfl h51 (zl rfl) rfl (DL_qg hns1 rfl rfl rfl h51 (zm (.pointer _) rfl) rfl (DL_qg hns1 rfl rfl rfl h51 (Qt_val (Qt_nilCheck (a := a0) (show Value.pointer (ptrOf (.slice la ks.length lc) (j * 135)) = .pointer (some a0) from by rw [hpj])) (show Value.pointer (some a0) = Value.pointer (ptrOf (.slice la ks.length lc) (j * 135)) from by rw [hpj])) rfl (DL_qg hns1 rfl rfl rfl h51 (Qt_fieldR rfl 135 (kept_pos hj)) rfl (DL_qg hns1 rfl rfl rfl h51 (Qt_fieldR rfl 135 (kept_pos hj)) rfl (DL_qg hns1 rfl rfl rfl h51 (Qt_loadRs 135 (.int .i64 ks[j].w.slot) rfl (kept_slot ks j hj)) rfl (DL_qg hns1 rfl rfl rfl h51 (Qt_gtr rfl rfl) rfl (zd hns1 rfl (zF (.bool _) rfl h51 rfl) rfl (DL_nil (zx (zC rfl (fun h61 => ?_) (fun h61 => ?_)))))))))))))
  ·
   have p61 := cL h61
   have hnext := BestK.up hkk hj hbs hq (by omega)
   refine zR (zy (zm (.pointer _) rfl) (zy (Qt_nilCheck rfl) (zy (zf 7 rfl rfl) (zy (zl rfl) (Qmi rfl rfl (zy (Qt_indexN rfl rfl (by omega) (by omega)) (zy (za (.pointer _) rfl) (zz (X_block (zx (zR ?_)))))))))))
   refine zy (zj rfl rfl) (Qmi rfl rfl (zz ?_))
   apply X_loop
   case ha => exact zA
   case hI => exact ⟨k + 1, _, rfl, rfl, by omega, hnext⟩
   case hm => exact by show ks.length - (k + 1 : Int).toNat < ks.length - (k : Int).toNat; omega
   case hH => exact SB
  have p61 := cL h61
  have hnext := BestK.keep hkk hj hbs (by omega)
  refine zk (X_block (zx (zR (zy (zj rfl rfl) (Qmi rfl rfl (zz ?_))))))
  apply X_loop
  case ha => exact zA
  case hI => exact ⟨k + 1, _, rfl, rfl, by omega, hnext⟩
  case hm => exact by show ks.length - (k + 1 : Int).toNat < ks.length - (k : Int).toNat; omega
  case hH => exact SB
 have p21 := cL h21
 have hkn : k = ks.length := by omega
 subst hkn
 refine zY (zG (zW (zE (zx (zS (T2 ?_))))))
 rcases o with _ | j
 ·
  refine zy (zm (.pointer _) rfl) (zy (Qt_ptr_nil rfl rfl Tryz.underlying134) (TX (zC rfl (fun h70 => ?_) (fun h70 => ?_))))
  ·
   have p70 := cL h70
   refine T2 (zy (zw [] rfl) (zy (zw [] rfl) (zN (zs rfl rfl (zN (zs rfl rfl (Qab rfl rfl (TX (zQ (zr ?_))))))))))
   exact zX (⟨WorldV.zero, SlotV.zero, false⟩ : BestR) [_, _, _] Tryz.results19 ⟨⟨_, rfl, res_cellN rfl⟩, ⟨_, rfl, res_cellN rfl⟩, rfl, trivial⟩ rfl (fun w hw => (SB w hw : St w0 H w).addPure (BestP.no (hbs)))
  have p70 := cL h70
  cases h70
 obtain ⟨hj, -, -⟩ := id hbs
 refine TL_know (fun w hw => row_ptr (hk.rd w (SB w hw : St w0 H w)) (kept_pos hj) (j * 135)) (fun hpj => ?_)
 obtain ⟨a0, hpj⟩ := hpj
 refine zy (zm (.pointer _) rfl) (zy (Qt_ptr_nil rfl rfl Tryz.underlying134) (TX (zC rfl (fun h70 => ?_) (fun h70 => ?_))))
 ·
  have p70 := cL h70
  rw [show (bptr (.slice la ks.length lc) (some j)) = some a0 from hpj] at h70
  cases h70
 have p70 := cL h70
 refine S4 (zy (zm (.pointer _) rfl) (zy (Qt_val (Qt_nilCheck (a := a0) (show Value.pointer (ptrOf (.slice la ks.length lc) (j * 135)) = .pointer (some a0) from by rw [hpj])) (show Value.pointer (some a0) = Value.pointer (ptrOf (.slice la ks.length lc) (j * 135)) from by rw [hpj])) (zy (Qt_fieldR rfl 135 (kept_pos hj)) (zy (Qt_val (Qt_loadRN 135 ks[j].last.list rfl (kept_last ks j hj) (SlotV.list_len _) (by decide)) (show Value.agg ks[j].last.list.toArray = Value.agg ks[j].last.cells from rfl)) (ze rfl (Ef_allocN (fun b10 => ?_)))))))
 refine zN (zs rfl rfl (TX (zS ?_)))
 refine T_drawF H (by kernel_rfl) SB (zI (i := 0) rfl (zf 33 rfl rfl) (zI (i := 3) rfl (zf 34 rfl rfl) ?_))
 refine DLF_2 (i := 1) (j := 4) (by kernel_rfl) ?_ ?_
 ·
  refine DLS_e rfl rfl (Ef_of_Qt (zl rfl) ⟨SB, (DLF_2 (i := 2) (j := 4) (by kernel_rfl) ?_ ?_)⟩)
  ·
   have : RdB w0 H (.slice ks[j].last.batch.a ks[j].last.batch.l.length ks[j].last.batch.c) ks[j].last.batch.l := hrb _ (List.getElem_mem hj)
   refine DLS_e rfl rfl (zc (cloneL_c (l := ks[j].last.batch.l) (by have := hK.batch _ (List.getElem_mem hj); omega)) rfl (fun x79 => ⟨SB, ?_⟩))
   refine zV (i := 4) (DLS_e rfl rfl (Ef_of_Qt (zl rfl) ⟨SB, (zI (i := 6) rfl (zf 33 rfl rfl) (zV (i := 5) ?_))⟩))
   have : RdC w0 H (.slice ks[j].last.parts.a ks[j].last.parts.ls.length ks[j].last.parts.c) 1 (ks[j].last.parts.ls.map BS.val) := hrp _ (List.getElem_mem hj)
   have : RdE w0 H ks[j].last.parts.ls := hre _ (List.getElem_mem hj)
   refine DLS_e rfl rfl (zc (cloned_c (ls := ks[j].last.parts.ls) (fun x hx => by have := (hK.parts _ (List.getElem_mem hj)).2 x hx; omega) (by have := (hK.parts _ (List.getElem_mem hj)).1; omega)) rfl (fun x82 => ⟨SB, ?_⟩))
   refine DLF_pure (fun h82 => ?_)
   refine zV (i := 7) (DLS_n rfl (Ef_store1 (.slice _ _ _) rfl rfl (⟨SB, (zI (i := 8) rfl (zf 34 rfl rfl) (zV (i := 9) (DLS_n rfl (Ef_store1 (.slice _ _ _) rfl rfl (⟨SB, (DLF_nil (by kernel_rfl) (zx (zS ?_)))⟩)))))⟩)))
   refine T_drawF (blk b10 (.cells (SlotV.mk ks[j].last.n ks[j].last.hash ⟨x79.a, x79.c, ks[j].last.batch.l⟩ x82.1).cells 69 (0, 0)) :: H) (by kernel_rfl) SB (zI (i := 0) rfl (zm (.pointer _) rfl) (zI (i := 1) rfl (Qt_val (Qt_nilCheck (a := a0) (show Value.pointer (ptrOf (.slice la ks.length lc) (j * 135)) = .pointer (some a0) from by rw [hpj])) (show Value.pointer (some a0) = Value.pointer (ptrOf (.slice la ks.length lc) (j * 135)) from by rw [hpj])) (zI (i := 2) rfl (Qt_fieldR rfl 135 (kept_pos hj)) (zI (i := 3) rfl (Qt_val (Qt_loadRN 135 ks[j].w.list rfl (kept_w ks j hj) (WorldV.list_len _) (by decide)) (show Value.agg ks[j].w.list.toArray = Value.agg ks[j].w.cells from rfl)) (zI (i := 4) rfl (zn rfl rfl) ?_)))))
   refine zV (i := 5) (DLS_n rfl (zs rfl rfl (⟨SB, (zV (i := 6) (DLS_n rfl (zs rfl rfl (⟨SB, (zI (i := 7) rfl (za (.bool _) rfl) (DLF_nil (by kernel_rfl) (zx (zQ ?_))))⟩))))⟩)))
   exact zX (⟨ks[j].w, ⟨ks[j].last.n, ks[j].last.hash, ⟨x79.a, x79.c, ks[j].last.batch.l⟩, x82.1⟩, true⟩ : BestR) [_, _, _] Tryz.results19 ⟨⟨_, rfl, res_cellN rfl⟩, ⟨_, rfl, res_cellN rfl⟩, rfl, trivial⟩ rfl (fun w hw => (SB w hw : St w0 H w).addPure (BestP.yes hj hbs rfl))
  refine DLS_e rfl rfl (Ef_of_Qt (zl rfl) ⟨SB, (zV (i := 2) ?_)⟩)
  have : RdB w0 H (.slice ks[j].last.batch.a ks[j].last.batch.l.length ks[j].last.batch.c) ks[j].last.batch.l := hrb _ (List.getElem_mem hj)
  refine DLS_e rfl rfl (zc (cloneL_c (l := ks[j].last.batch.l) (by have := hK.batch _ (List.getElem_mem hj); omega)) rfl (fun x79 => ⟨SB, ?_⟩))
  refine zI (i := 6) rfl (zf 33 rfl rfl) (zV (i := 5) ?_)
  have : RdC w0 H (.slice ks[j].last.parts.a ks[j].last.parts.ls.length ks[j].last.parts.c) 1 (ks[j].last.parts.ls.map BS.val) := hrp _ (List.getElem_mem hj)
  have : RdE w0 H ks[j].last.parts.ls := hre _ (List.getElem_mem hj)
  refine DLS_e rfl rfl (zc (cloned_c (ls := ks[j].last.parts.ls) (fun x hx => by have := (hK.parts _ (List.getElem_mem hj)).2 x hx; omega) (by have := (hK.parts _ (List.getElem_mem hj)).1; omega)) rfl (fun x82 => ⟨SB, ?_⟩))
  refine DLF_pure (fun h82 => ?_)
  refine zV (i := 7) (DLS_n rfl (Ef_store1 (.slice _ _ _) rfl rfl (⟨SB, (zI (i := 8) rfl (zf 34 rfl rfl) (zV (i := 9) (DLS_n rfl (Ef_store1 (.slice _ _ _) rfl rfl (⟨SB, (DLF_nil (by kernel_rfl) (zx (zS ?_)))⟩)))))⟩)))
  refine T_drawF (blk b10 (.cells (SlotV.mk ks[j].last.n ks[j].last.hash ⟨x79.a, x79.c, ks[j].last.batch.l⟩ x82.1).cells 69 (0, 0)) :: H) (by kernel_rfl) SB (zI (i := 0) rfl (zm (.pointer _) rfl) (zI (i := 1) rfl (Qt_val (Qt_nilCheck (a := a0) (show Value.pointer (ptrOf (.slice la ks.length lc) (j * 135)) = .pointer (some a0) from by rw [hpj])) (show Value.pointer (some a0) = Value.pointer (ptrOf (.slice la ks.length lc) (j * 135)) from by rw [hpj])) (zI (i := 2) rfl (Qt_fieldR rfl 135 (kept_pos hj)) (zI (i := 3) rfl (Qt_val (Qt_loadRN 135 ks[j].w.list rfl (kept_w ks j hj) (WorldV.list_len _) (by decide)) (show Value.agg ks[j].w.list.toArray = Value.agg ks[j].w.cells from rfl)) (zI (i := 4) rfl (zn rfl rfl) ?_)))))
  refine zV (i := 5) (DLS_n rfl (zs rfl rfl (⟨SB, (zV (i := 6) (DLS_n rfl (zs rfl rfl (⟨SB, (zI (i := 7) rfl (za (.bool _) rfl) (DLF_nil (by kernel_rfl) (zx (zQ ?_))))⟩))))⟩)))
  exact zX (⟨ks[j].w, ⟨ks[j].last.n, ks[j].last.hash, ⟨x79.a, x79.c, ks[j].last.batch.l⟩, x82.1⟩, true⟩ : BestR) [_, _, _] Tryz.results19 ⟨⟨_, rfl, res_cellN rfl⟩, ⟨_, rfl, res_cellN rfl⟩, rfl, trivial⟩ rfl (fun w hw => (SB w hw : St w0 H w).addPure (BestP.yes hj hbs rfl))
 refine DLS_e rfl rfl (Ef_of_Qt (zl rfl) ⟨SB, (zV (i := 1) (DLS_e rfl rfl (Ef_of_Qt (zl rfl) ⟨SB, (zV (i := 2) ?_)⟩)))⟩)
 have : RdB w0 H (.slice ks[j].last.batch.a ks[j].last.batch.l.length ks[j].last.batch.c) ks[j].last.batch.l := hrb _ (List.getElem_mem hj)
 refine DLS_e rfl rfl (zc (cloneL_c (l := ks[j].last.batch.l) (by have := hK.batch _ (List.getElem_mem hj); omega)) rfl (fun x79 => ⟨SB, ?_⟩))
 refine zI (i := 6) rfl (zf 33 rfl rfl) (zV (i := 5) ?_)
 have : RdC w0 H (.slice ks[j].last.parts.a ks[j].last.parts.ls.length ks[j].last.parts.c) 1 (ks[j].last.parts.ls.map BS.val) := hrp _ (List.getElem_mem hj)
 have : RdE w0 H ks[j].last.parts.ls := hre _ (List.getElem_mem hj)
 refine DLS_e rfl rfl (zc (cloned_c (ls := ks[j].last.parts.ls) (fun x hx => by have := (hK.parts _ (List.getElem_mem hj)).2 x hx; omega) (by have := (hK.parts _ (List.getElem_mem hj)).1; omega)) rfl (fun x82 => ⟨SB, ?_⟩))
 refine DLF_pure (fun h82 => ?_)
 refine zV (i := 7) (DLS_n rfl (Ef_store1 (.slice _ _ _) rfl rfl (⟨SB, (zI (i := 8) rfl (zf 34 rfl rfl) (zV (i := 9) (DLS_n rfl (Ef_store1 (.slice _ _ _) rfl rfl (⟨SB, (DLF_nil (by kernel_rfl) (zx (zS ?_)))⟩)))))⟩)))
 refine T_drawF (blk b10 (.cells (SlotV.mk ks[j].last.n ks[j].last.hash ⟨x79.a, x79.c, ks[j].last.batch.l⟩ x82.1).cells 69 (0, 0)) :: H) (by kernel_rfl) SB (zI (i := 0) rfl (zm (.pointer _) rfl) (zI (i := 1) rfl (Qt_val (Qt_nilCheck (a := a0) (show Value.pointer (ptrOf (.slice la ks.length lc) (j * 135)) = .pointer (some a0) from by rw [hpj])) (show Value.pointer (some a0) = Value.pointer (ptrOf (.slice la ks.length lc) (j * 135)) from by rw [hpj])) (zI (i := 2) rfl (Qt_fieldR rfl 135 (kept_pos hj)) (zI (i := 3) rfl (Qt_val (Qt_loadRN 135 ks[j].w.list rfl (kept_w ks j hj) (WorldV.list_len _) (by decide)) (show Value.agg ks[j].w.list.toArray = Value.agg ks[j].w.cells from rfl)) (zI (i := 4) rfl (zn rfl rfl) ?_)))))
 refine zV (i := 5) (DLS_n rfl (zs rfl rfl (⟨SB, (zV (i := 6) (DLS_n rfl (zs rfl rfl (⟨SB, (zI (i := 7) rfl (za (.bool _) rfl) (DLF_nil (by kernel_rfl) (zx (zQ ?_))))⟩))))⟩)))
 exact zX (⟨ks[j].w, ⟨ks[j].last.n, ks[j].last.hash, ⟨x79.a, x79.c, ks[j].last.batch.l⟩, x82.1⟩, true⟩ : BestR) [_, _, _] Tryz.results19 ⟨⟨_, rfl, res_cellN rfl⟩, ⟨_, rfl, res_cellN rfl⟩, rfl, trivial⟩ rfl (fun w hw => (SB w hw : St w0 H w).addPure (BestP.yes hj hbs rfl))
end
section
open Go.RowKit Go.Sx
set_option maxRecDepth 100000
instance wg_cell {v : WGotV} : CellAt v.cells 0 (.int .i64 v.w.slot) := ⟨by simp [WGotV.cells, WGotV.list, WorldV.list]⟩
instance wg_was {v : WGotV} : SubAt v.cells 4 2 v.w.was.cells := ⟨by have := sub_mid (v.w.p0 ++ (v.w.p1 ++ v.w.view.list)) v.w.was.list (v.w.p4 ++ (v.w.p5 ++ [.int .i64 v.e])) (o := 4) (n := 2) (by simp [ViewV.list_len]) v.w.was.list_len; simpa [WGotV.cells, WGotV.list, WorldV.list, ViewV.cells, List.append_assoc] using this⟩
theorem rkept_pos {ks : List RKeptV} {i : Nat} (hi : i < ks.length) : 0 < (ks.flatMap RKeptV.list).length := flat_pos _ 103 RKeptV.list_len (by decide) ks hi
theorem rkept_slot (ks : List RKeptV) (i : Nat) (hi : i < ks.length) : (ks.flatMap RKeptV.list)[i * 103 + 0]? = some (.int .i64 ks[i].w.slot) := by rw [flat_get RKeptV.list 103 RKeptV.list_len ks i 0 hi (by decide)]; rfl
theorem rkept_w (ks : List RKeptV) (i : Nat) (hi : i < ks.length) : ((ks.flatMap RKeptV.list).drop (i * 103 + 0)).take 68 = ks[i].w.list := by
 rw [flat_part RKeptV.list 103 RKeptV.list_len ks i hi 0 68 (by decide), List.drop_zero]
 unfold RKeptV.list
 rw [List.take_append_of_le_length (by rw [WorldV.list_len]; decide)]
 exact List.take_of_length_le (by rw [WorldV.list_len]; decide)
structure RKOK (ks : List RKeptV) : Prop where
 len : ks.length ≤ 16
 good : ∀ k ∈ ks, GoodW k.w
theorem bodyG_bad1 {l : List UInt8} (h : (rdText l 65536).1 ≠ 0 ∨ (rdText (l.drop (rdText l 65536).2.2) 65536).1 ≠ 0 ∨ (rdText l 65536).2.2 + (rdText (l.drop (rdText l 65536).2.2) 65536).2.2 < l.length) : (bodyG l).1 ≠ 0 := by
 unfold bodyG; rw [if_pos h]; decide
theorem bodyG_ok {l : List UInt8} (h : ¬ ((rdText l 65536).1 ≠ 0 ∨ (rdText (l.drop (rdText l 65536).2.2) 65536).1 ≠ 0 ∨ (rdText l 65536).2.2 + (rdText (l.drop (rdText l 65536).2.2) 65536).2.2 < l.length)) :
 bodyG l = ((worldG (rdText l 65536).2.1).1, (worldG (rdText l 65536).2.1).2, (rdText (l.drop (rdText l 65536).2.2) 65536).2.1) := by
 unfold bodyG; rw [if_neg h]
structure RSN where
 la : Option Addr
 lc : Nat
 ks : List RKeptV
 e : Int
attribute [local irreducible] sha cbE decidD worldG bodyG openOfK digW provE rdText
set_option maxHeartbeats 1000000 in
theorem rSnapX_c {w0 : World} {H : List SA} {p : Nat} {num : Int} {mk : Nat} (hmk : mk < 65536) {had : Int} {fm : Sl} {la : Option Addr} {lc : Nat} {ks : List RKeptV} {sa : Option Addr} {sc : Nat} {ls : List BS} [rk : RdC w0 H (.slice sa ls.length sc) 1 (ls.map BS.val)] [rke : RdE w0 H ls] (hkl : ∀ x ∈ ls, x.l.length ≤ 4294967000) {ra : Option Addr} {rq : Nat} {rs : List (Vector UInt8 32)} [hrr : RdC w0 H (.slice ra rs.length rq) 32 (rs.flatMap hlist)] (hrs : rs.length ≤ 1000) (hK : RKOK ks) {a : Option Addr} {l : List UInt8} {c : Nat} [hr : RdB w0 H (.slice a l.length c) l] (hl : l.length ≤ 4294960000) :
 CT Tryz.prog w0 (blk p (.cells (RFetchV.mk (KeysV.mk ⟨sa, sc, ls⟩ ⟨ra, rs.length, rq⟩) (ViewV.mk num (mk : Int)) had fm ⟨la, ks.length, lc⟩).cells 55 (0, 0)) :: row (.slice la (ks).length lc) 75 103 ((ks).flatMap RKeptV.list) :: H) 16 [.pointer (some ⟨p, 0, none⟩), .slice a l.length c] (α := RSN) (fun y => .int .i64 y.e) (fun y => pu (y.ks.map (·.w) = stepW (ls.map BS.l) rs mk had (ks.map (·.w)) l ∧ RKOK y.ks) :: blk p (.cells (RFetchV.mk (KeysV.mk ⟨sa, sc, ls⟩ ⟨ra, rs.length, rq⟩) (ViewV.mk num (mk : Int)) had fm ⟨y.la, y.ks.length, y.lc⟩).cells 55 (0, 0)) :: row (.slice y.la (y.ks).length y.lc) 75 103 ((y.ks).flatMap RKeptV.list) :: H) := by
 have hlen := hK.len
 refine CT_intro Tryz.func16 rfl Tryz.ntmps16 rfl ?_
 refine T2 (Qai rfl rfl (TX (T_cut [5, 13, 14, 15, 16, 17, 18, 19, 20, 21, 22] [5] (fun us H' => ∃ (b5 : Nat) (x22 : MsgV × List Nat), us = [.pointer (some ⟨b5, 0, none⟩)] ∧ blk b5 (.cells (MGotV.mk x22.1 (openOfK (ls.map BS.l) mk l).1).cells 98 (0, 0)) :: dat x22.2 (Deep.leads x22.1) :: blk p (.cells (RFetchV.mk (KeysV.mk ⟨sa, sc, ls⟩ ⟨ra, rs.length, rq⟩) (ViewV.mk num (mk : Int)) had fm ⟨la, ks.length, lc⟩).cells 55 (0, 0)) :: row (.slice la (ks).length lc) 75 103 ((ks).flatMap RKeptV.list) :: H = H' ∧ x22.1.abs = (openOfK (ls.map BS.l) mk l).2) ?_ ?_)))
 ·
  refine T_drawF (blk p (.cells (RFetchV.mk (KeysV.mk ⟨sa, sc, ls⟩ ⟨ra, rs.length, rq⟩) (ViewV.mk num (mk : Int)) had fm ⟨la, ks.length, lc⟩).cells 55 (0, 0)) :: H) (by kernel_rfl) SB (DLF_q (i := 0) (by kernel_rfl) rfl (by kernel_rfl) (by kernel_rfl) (zm (.pointer _) rfl) rfl (DLF_q (i := 1) (by kernel_rfl) rfl (by kernel_rfl) (by kernel_rfl) (Qt_nilCheck rfl) rfl (DLF_q (i := 2) (by kernel_rfl) rfl (by kernel_rfl) (by kernel_rfl) (zf 0 rfl rfl) rfl (DLF_q (i := 3) (by kernel_rfl) rfl (by kernel_rfl) (by kernel_rfl) (zn rfl rfl) rfl (DLF_q (i := 4) (by kernel_rfl) rfl (by kernel_rfl) (by kernel_rfl) (zm (.pointer _) rfl) rfl ?_)))))
  refine DLF_q (i := 5) (by kernel_rfl) rfl (by kernel_rfl) (by kernel_rfl) (Qt_nilCheck rfl) rfl (DLF_q (i := 6) (by kernel_rfl) rfl (by kernel_rfl) (by kernel_rfl) (zf 2 rfl rfl) rfl (DLF_q (i := 7) (by kernel_rfl) rfl (by kernel_rfl) (by kernel_rfl) (zn rfl rfl) rfl (DLF_q (i := 8) (by kernel_rfl) rfl (by kernel_rfl) (by kernel_rfl) (zm (.slice _ _ _) rfl) rfl ?_)))
  refine DLF_2 (i := 9) (j := 10) (by kernel_rfl) ?_ ?_
  ·
   refine DLS_e rfl rfl (zc (rOpenOf_c (num := num) (mk := mk) hmk (sa := sa) (sc := sc) (ls := ls) (rt := ⟨ra, rs.length, rq⟩) hkl (a := a) (l := l) (c := c) (hr := inferInstance) hl) rfl (fun x22 => ⟨SB, ?_⟩))
   refine DLF_pure (fun h22 => ?_)
   refine DLF_1 (i := 10) (by kernel_rfl) ?_
   refine DLS_e rfl rfl (Ef_allocN (fun b5 => ⟨SB, ?_⟩))
   refine DLF_1 (i := 11) (by kernel_rfl) ?_
   refine DLS_n rfl (zs rfl rfl (⟨SB, ?_⟩))
   refine DLF_nil (by kernel_rfl) ?_
   refine X_cut _ (by repeat (first | with_reducible exact agree_refl | refine agree_upd rfl ?_ | refine agree_mix rfl ?_ | refine agree_setAll rfl ?_)) (⟨b5, x22, rfl, rfl, h22⟩) (SB)
  refine DLS_e rfl rfl (Ef_allocN (fun b5 => ⟨SB, ?_⟩))
  refine DLF_1 (i := 9) (by kernel_rfl) ?_
  refine DLS_e rfl rfl (zc (rOpenOf_c (num := num) (mk := mk) hmk (sa := sa) (sc := sc) (ls := ls) (rt := ⟨ra, rs.length, rq⟩) hkl (a := a) (l := l) (c := c) (hr := inferInstance) hl) rfl (fun x22 => ⟨SB, ?_⟩))
  refine DLF_pure (fun h22 => ?_)
  refine DLF_1 (i := 11) (by kernel_rfl) ?_
  refine DLS_n rfl (zs rfl rfl (⟨SB, ?_⟩))
  refine DLF_nil (by kernel_rfl) ?_
  refine X_cut _ (by repeat (first | with_reducible exact agree_refl | refine agree_upd rfl ?_ | refine agree_mix rfl ?_ | refine agree_setAll rfl ?_)) (⟨b5, x22, rfl, rfl, h22⟩) (SB)
 rintro τc0 _ _ ⟨b5, x22, rfl, rfl, h22⟩ _
 have hkd : x22.1.kind = (openOfK (ls.map BS.l) mk l).2.kind := congrArg MsgD.kind h22
 have hsl : x22.1.slot = (openOfK (ls.map BS.l) mk l).2.slot := congrArg MsgD.slot h22
 have hbd : (openOfK (ls.map BS.l) mk l).2.body = x22.1.body.l := (congrArg MsgD.body h22).symm
 have hs2 := openOfK_small2 (ls.map BS.l) mk l
 rw [← h22] at hs2
 have hmbl : x22.1.body.l.length ≤ 4294960000 := Nat.le_trans hs2.1 hl
 have hmps : ∀ x ∈ x22.1.parts.ls, x.l.length ≤ 4294960000 := fun x hx => Nat.le_trans (hs2.2.1 x.l (List.mem_map.2 ⟨x, hx, rfl⟩)) hl
 have hmpn : x22.1.parts.ls.length ≤ 16 := by have := hs2.2.2; rwa [show x22.1.abs.parts = x22.1.parts.ls.map BS.l from rfl, List.length_map] at this
 refine zS (T2 ?_)
 refine zq (zf 39 rfl rfl) rfl (zq (zl rfl) rfl (zq (Qt_neq rfl rfl) rfl (TX (zC rfl (fun h25 => ?_) (fun h25 => ?_)))))
 ·
  have p25 := h25
  try simp only [dp] at p25
  refine T2 (zq (zf 39 rfl rfl) rfl (zq (zl rfl) rfl (Qai rfl rfl (TX (zQ (zr ?_))))))
  have e : snapW (ls.map BS.l) rs mk had l = none := by unfold snapW; rw [if_pos (by simpa using h25)]
  exact zX (⟨la, lc, ks, (openOfK (ls.map BS.l) mk l).1⟩ : RSN) [_] Tryz.results16 ⟨rfl, trivial⟩ rfl (fun w hw => (SB w hw : St w0 (blk p (.cells (RFetchV.mk (KeysV.mk ⟨sa, sc, ls⟩ ⟨ra, rs.length, rq⟩) (ViewV.mk num (mk : Int)) had fm ⟨la, ks.length, lc⟩).cells 55 (0, 0)) :: row (.slice la (ks).length lc) 75 103 ((ks).flatMap RKeptV.list) :: H) w).addPure ⟨by rw [stepW_none e], hK⟩)
 have p25 := h25
 try simp only [dp] at p25
 have hz : (openOfK (ls.map BS.l) mk l).1 = 0 := by simpa using h25
 refine S4 (zq (zf 0 rfl rfl) rfl (zq (zn rfl rfl) rfl ?_))
 refine ze rfl (Ef_allocN (fun b6 => ?_))
 refine zN (zs rfl rfl (?_))
 refine TX (zS (T2 ?_))
 refine zq (zf 0 rfl rfl) rfl (zq (zl rfl) rfl (zq (Qt_neq rfl rfl) rfl (TX (zC rfl (fun h32 => ?_) (fun h32 => ?_)))))
 ·
  have p32 := h32
  try simp only [dp] at p32
  refine T2 (Qai rfl rfl (TX (zQ (zr ?_))))
  have e : snapW (ls.map BS.l) rs mk had l = none := by unfold snapW; rw [if_neg (by omega), if_pos (by rw [← hkd]; simpa using h32)]
  exact zX (⟨la, lc, ks, 15⟩ : RSN) [_] Tryz.results16 ⟨rfl, trivial⟩ rfl (fun w hw => (SB w hw : St w0 (blk p (.cells (RFetchV.mk (KeysV.mk ⟨sa, sc, ls⟩ ⟨ra, rs.length, rq⟩) (ViewV.mk num (mk : Int)) had fm ⟨la, ks.length, lc⟩).cells 55 (0, 0)) :: row (.slice la (ks).length lc) 75 103 ((ks).flatMap RKeptV.list) :: H) w).addPure ⟨by rw [stepW_none e], hK⟩)
 have p32 := h32
 try simp only [dp] at p32
 have hk11 : (openOfK (ls.map BS.l) mk l).2.kind = 11 := by rw [← hkd]; simpa using h32
 refine S4 (zq (zf 37 rfl rfl) rfl (zq (zl rfl) rfl ?_))
 refine ze rfl (zc (rReadText_c (a := x22.1.body.a) (l := x22.1.body.l) (c := x22.1.body.c) (k := 0) (m := 65536) (by omega) (by omega) (by decide) (by decide)) rfl (fun x35 => ?_))
 rw [List.drop_zero]
 have htb := rdText_bound x22.1.body.l 65536
 refine ze rfl (Ef_allocN (fun b7 => ?_))
 refine zN (zs rfl rfl (?_))
 refine TX (zS (T2 ?_))
 refine zq (zf 3 rfl rfl) rfl (zq (zl rfl) rfl (zq (Qt_neq rfl rfl) rfl (TX (zC rfl (fun h38 => ?_) (fun h38 => ?_)))))
 ·
  have p38 := h38
  try simp only [dp] at p38
  refine T2 (Qai rfl rfl (TX (zQ (zr ?_))))
  have e : snapW (ls.map BS.l) rs mk had l = none := by unfold snapW; rw [if_neg (by omega), if_neg (by omega), hbd, if_pos (bodyG_bad1 (.inl (by simpa using h38)))]
  exact zX (⟨la, lc, ks, 2⟩ : RSN) [_] Tryz.results16 ⟨rfl, trivial⟩ rfl (fun w hw => (SB w hw : St w0 (blk p (.cells (RFetchV.mk (KeysV.mk ⟨sa, sc, ls⟩ ⟨ra, rs.length, rq⟩) (ViewV.mk num (mk : Int)) had fm ⟨la, ks.length, lc⟩).cells 55 (0, 0)) :: row (.slice la (ks).length lc) 75 103 ((ks).flatMap RKeptV.list) :: H) w).addPure ⟨by rw [stepW_none e], hK⟩)
 have p38 := h38
 try simp only [dp] at p38
 refine S4 (zq (zf 37 rfl rfl) rfl (zq (zl rfl) rfl (zq (zf 2 rfl rfl) rfl (zq (zl rfl) rfl ?_))))
 refine ze rfl (zc (rReadText_c (a := x22.1.body.a) (l := x22.1.body.l) (c := x22.1.body.c) (k := (rdText x22.1.body.l 65536).2.2) (m := 65536) htb.1 (by omega) (by decide) (by decide)) rfl (fun x43 => ?_))
 have htc := rdText_bound (x22.1.body.l.drop (rdText x22.1.body.l 65536).2.2) 65536
 rw [List.length_drop] at htc
 refine ze rfl (Ef_allocN (fun b8 => ?_))
 refine zN (zs rfl rfl (?_))
 refine TX (zS (T2 ?_))
 refine zq (zf 3 rfl rfl) rfl (zq (zl rfl) rfl (zq (Qt_neq rfl rfl) rfl (Qmb rfl rfl ?_)))
 refine TL_split 47 rfl (fun h47 => ?_) (fun h47 => ?_)
 ·
  have p47 := h47
  try simp only [dp] at p47
  refine zp rfl rfl h47 rfl (zp rfl rfl h47 rfl (zp rfl rfl h47 rfl (zp rfl rfl h47 rfl (zp rfl rfl h47 rfl (zp rfl rfl h47 rfl ?_)))))
  refine zp rfl rfl h47 rfl (zp rfl rfl h47 rfl (zp rfl rfl h47 rfl (zq (zT (.bool _) rfl h47 rfl) rfl (TX (T_cond_true rfl rfl ?_)))))
  refine T2 (Qai rfl rfl (TX (zQ (zr ?_))))
  have e : snapW (ls.map BS.l) rs mk had l = none := by unfold snapW; rw [if_neg (by omega), if_neg (by omega), hbd, if_pos (bodyG_bad1 (by first | exact .inr (.inl (by simpa using h47)) | exact .inr (.inr (by omega))))]
  exact zX (⟨la, lc, ks, 2⟩ : RSN) [_] Tryz.results16 ⟨rfl, trivial⟩ rfl (fun w hw => (SB w hw : St w0 (blk p (.cells (RFetchV.mk (KeysV.mk ⟨sa, sc, ls⟩ ⟨ra, rs.length, rq⟩) (ViewV.mk num (mk : Int)) had fm ⟨la, ks.length, lc⟩).cells 55 (0, 0)) :: row (.slice la (ks).length lc) 75 103 ((ks).flatMap RKeptV.list) :: H) w).addPure ⟨by rw [stepW_none e], hK⟩)
 have p47 := h47
 try simp only [dp] at p47
 refine zt rfl rfl h47 (zq (zf 2 rfl rfl) rfl (zt rfl rfl h47 (zq (zl rfl) rfl (zt rfl rfl h47 (zq (zf 2 rfl rfl) rfl ?_)))))
 refine zt rfl rfl h47 (zq (zl rfl) rfl (zt rfl rfl h47 (zq (Qt_add rfl rfl (by omega) (by omega)) rfl (zt rfl rfl h47 (zq (zf 37 rfl rfl) rfl ?_)))))
 refine zt rfl rfl h47 (zq (zl rfl) rfl (zt rfl rfl h47 (zq (zL rfl Tryz.underlying33) rfl (zt rfl rfl h47 (zq (Qt_lss rfl rfl) rfl ?_)))))
 refine zq (zF (.bool _) rfl h47 rfl) rfl (TX (zC rfl (fun h57 => ?_) (fun h57 => ?_)))
 ·
  have p57 := h57
  try simp only [dp] at p57
  refine T2 (Qai rfl rfl (TX (zQ (zr ?_))))
  have e : snapW (ls.map BS.l) rs mk had l = none := by unfold snapW; rw [if_neg (by omega), if_neg (by omega), hbd, if_pos (bodyG_bad1 (by first | exact .inr (.inl (by simpa using h47)) | exact .inr (.inr (by omega))))]
  exact zX (⟨la, lc, ks, 2⟩ : RSN) [_] Tryz.results16 ⟨rfl, trivial⟩ rfl (fun w hw => (SB w hw : St w0 (blk p (.cells (RFetchV.mk (KeysV.mk ⟨sa, sc, ls⟩ ⟨ra, rs.length, rq⟩) (ViewV.mk num (mk : Int)) had fm ⟨la, ks.length, lc⟩).cells 55 (0, 0)) :: row (.slice la (ks).length lc) 75 103 ((ks).flatMap RKeptV.list) :: H) w).addPure ⟨by rw [stepW_none e], hK⟩)
 have p57 := h57
 try simp only [dp] at p57
 have hbg : bodyG x22.1.body.l = ((worldG (rdText x22.1.body.l 65536).2.1).1, (worldG (rdText x22.1.body.l 65536).2.1).2, (rdText (x22.1.body.l.drop (rdText x22.1.body.l 65536).2.2) 65536).2.1) := bodyG_ok (by rintro (h | h | h); exact h (by simpa using h38); exact h (by simpa using h47); omega)
 refine S4 (zq (zf 1 rfl rfl) rfl (zq (zl rfl) rfl ?_))
 refine ze rfl (zc (rWorldGet_c (a := x35.a) (l := (rdText x22.1.body.l 65536).2.1) (c := x35.c) (by omega)) rfl (fun x60 => ?_))
 have hgw := worldG_good (rdText x22.1.body.l 65536).2.1
 obtain ⟨m2, hm2l, hm2e⟩ := hgw.was
 have hm2 : (worldG (rdText x22.1.body.l 65536).2.1).2.was.mask.toNat < 65536 := by rw [hm2e]; exact hm2l
 have hm2c : (((worldG (rdText x22.1.body.l 65536).2.1).2.was.mask.toNat : Nat) : Int) = (worldG (rdText x22.1.body.l 65536).2.1).2.was.mask := by rw [hm2e]; rfl
 refine ze rfl (Ef_allocN (fun b9 => ?_))
 refine zN (zs rfl rfl (?_))
 refine TX (zS (T2 ?_))
 refine zq (zf 68 rfl rfl) rfl (zq (zl rfl) rfl (zq (Qt_neq rfl rfl) rfl (TX (zC rfl (fun h63 => ?_) (fun h63 => ?_)))))
 ·
  have p63 := h63
  try simp only [dp] at p63
  refine T2 (zq (zf 68 rfl rfl) rfl (zq (zl rfl) rfl (Qai rfl rfl (TX (zQ (zr ?_))))))
  have e : snapW (ls.map BS.l) rs mk had l = none := by unfold snapW; rw [if_neg (by omega), if_neg (by omega), hbd, if_pos (by rw [hbg]; simpa using h63)]
  exact zX (⟨la, lc, ks, (worldG (rdText x22.1.body.l 65536).2.1).1⟩ : RSN) [_] Tryz.results16 ⟨rfl, trivial⟩ rfl (fun w hw => (SB w hw : St w0 (blk p (.cells (RFetchV.mk (KeysV.mk ⟨sa, sc, ls⟩ ⟨ra, rs.length, rq⟩) (ViewV.mk num (mk : Int)) had fm ⟨la, ks.length, lc⟩).cells 55 (0, 0)) :: row (.slice la (ks).length lc) 75 103 ((ks).flatMap RKeptV.list) :: H) w).addPure ⟨by rw [stepW_none e], hK⟩)
 have p63 := h63
 try simp only [dp] at p63
 refine zk (zx (zS (T2 ?_)))
 refine zq (zf 0 rfl rfl) rfl (zq (zf 0 rfl rfl) rfl (zq (zl rfl) rfl (zq (zf 4 rfl rfl) rfl (zq (zl rfl) rfl (zq (Qt_neq rfl rfl) rfl ?_)))))
 refine TX (zC rfl (fun h71 => ?_) (fun h71 => ?_))
 ·
  have p71 := h71
  try simp only [dp] at p71
  refine T2 (Qai rfl rfl (TX (zQ (zr ?_))))
  have e : snapW (ls.map BS.l) rs mk had l = none := by unfold snapW; rw [if_neg (by omega), if_neg (by omega), hbd, if_neg (by rw [hbg]; simpa using h63), hbg, if_pos (by rw [← hsl]; simpa using h71)]
  exact zX (⟨la, lc, ks, 8⟩ : RSN) [_] Tryz.results16 ⟨rfl, trivial⟩ rfl (fun w hw => (SB w hw : St w0 (blk p (.cells (RFetchV.mk (KeysV.mk ⟨sa, sc, ls⟩ ⟨ra, rs.length, rq⟩) (ViewV.mk num (mk : Int)) had fm ⟨la, ks.length, lc⟩).cells 55 (0, 0)) :: row (.slice la (ks).length lc) 75 103 ((ks).flatMap RKeptV.list) :: H) w).addPure ⟨by rw [stepW_none e], hK⟩)
 have p71 := h71
 try simp only [dp] at p71
 refine zk (zx (zS (zS ?_)))
 refine T_draw (blk b6 (.cells x22.1.cells 82 (0, 0)) :: blk p (.cells (RFetchV.mk (KeysV.mk ⟨sa, sc, ls⟩ ⟨ra, rs.length, rq⟩) (ViewV.mk num (mk : Int)) had fm ⟨la, ks.length, lc⟩).cells 55 (0, 0)) :: H) [(0, true), (1, true), (2, true), (3, true), (4, true), (5, true), (6, true)] (by kernel_rfl) (by kernel_rfl) rfl (by kernel_rfl) SB (fun hns1 => ?_)
 refine zd hns1 rfl (zf 4 rfl rfl) rfl (zd hns1 rfl (zl rfl) rfl (zd hns1 rfl (zm (.pointer _) rfl) rfl (zd hns1 rfl (Qt_nilCheck rfl) rfl (zd hns1 rfl (zf 4 rfl rfl) rfl (zd hns1 rfl (zl rfl) rfl ?_)))))
 refine zd hns1 rfl (Qt_leq rfl rfl) rfl (DL_nil (zx (zC rfl (fun h78 => ?_) (fun h78 => ?_))))
 ·
  have p78 := h78
  try simp only [dp] at p78
  refine T2 (Qai rfl rfl (TX (zQ (zr ?_))))
  have e : snapW (ls.map BS.l) rs mk had l = none := by unfold snapW; rw [if_neg (by omega), if_neg (by omega), hbd, if_neg (by rw [hbg]; simpa using h63), hbg, if_neg (by rw [← hsl]; simpa using h71), if_pos (by rw [← hsl]; omega)]
  exact zX (⟨la, lc, ks, 7⟩ : RSN) [_] Tryz.results16 ⟨rfl, trivial⟩ rfl (fun w hw => (SB w hw : St w0 (blk p (.cells (RFetchV.mk (KeysV.mk ⟨sa, sc, ls⟩ ⟨ra, rs.length, rq⟩) (ViewV.mk num (mk : Int)) had fm ⟨la, ks.length, lc⟩).cells 55 (0, 0)) :: row (.slice la (ks).length lc) 75 103 ((ks).flatMap RKeptV.list) :: H) w).addPure ⟨by rw [stepW_none e], hK⟩)
 have p78 := h78
 try simp only [dp] at p78
 refine zk (zx ?_)
 refine T_cut [10, 11, 79, 80, 81, 82, 83, 84, 85, 86, 87, 88, 89, 90, 91, 92] [10, 11] (fun us H' => ∃ (b10 : Nat) (x90 : SlotV), us = [.pointer (some ⟨b10, 0, none⟩), .int .i64 (provE (ls.map BS.l) rs (worldG (rdText x22.1.body.l 65536).2.1).2.was.num (worldG (rdText x22.1.body.l 65536).2.1).2.was.mask.toNat x22.1.abs (rdText (x22.1.body.l.drop (rdText x22.1.body.l 65536).2.2) 65536).2.1)] ∧ blk b10 (.cells x90.cells 69 (0, 0)) :: blk b9 (.cells (WGotV.mk (worldG (rdText x22.1.body.l 65536).2.1).2 (worldG (rdText x22.1.body.l 65536).2.1).1).cells 126 (0, 0)) :: blk p (.cells (RFetchV.mk (KeysV.mk ⟨sa, sc, ls⟩ ⟨ra, rs.length, rq⟩) (ViewV.mk num (mk : Int)) had fm ⟨la, ks.length, lc⟩).cells 55 (0, 0)) :: row (.slice la (ks).length lc) 75 103 ((ks).flatMap RKeptV.list) :: H = H') ?_ ?_
 ·
  refine T_drawF (blk b6 (.cells x22.1.cells 82 (0, 0)) :: blk b8 (.cells (GotV.mk 0 ⟨x43.a, x43.c, (rdText (x22.1.body.l.drop (rdText x22.1.body.l 65536).2.2) 65536).2.1⟩ ((rdText (x22.1.body.l.drop (rdText x22.1.body.l 65536).2.2) 65536).2.2 : Int) (rdText (x22.1.body.l.drop (rdText x22.1.body.l 65536).2.2) 65536).1).cells 123 (0, 0)) :: blk b9 (.cells (WGotV.mk (worldG (rdText x22.1.body.l 65536).2.1).2 (worldG (rdText x22.1.body.l 65536).2.1).1).cells 126 (0, 0)) :: blk p (.cells (RFetchV.mk (KeysV.mk ⟨sa, sc, ls⟩ ⟨ra, rs.length, rq⟩) (ViewV.mk num (mk : Int)) had fm ⟨la, ks.length, lc⟩).cells 55 (0, 0)) :: H) (by kernel_rfl) SB (DLF_q (i := 0) (by kernel_rfl) rfl (by kernel_rfl) (by kernel_rfl) (zm (.pointer _) rfl) rfl (DLF_q (i := 1) (by kernel_rfl) rfl (by kernel_rfl) (by kernel_rfl) (Qt_nilCheck rfl) rfl (DLF_q (i := 2) (by kernel_rfl) rfl (by kernel_rfl) (by kernel_rfl) (zf 0 rfl rfl) rfl (DLF_q (i := 3) (by kernel_rfl) rfl (by kernel_rfl) (by kernel_rfl) (zn rfl rfl) rfl (DLF_q (i := 4) (by kernel_rfl) rfl (by kernel_rfl) (by kernel_rfl) (zf 0 rfl rfl) rfl ?_)))))
  refine DLF_q (i := 5) (by kernel_rfl) rfl (by kernel_rfl) (by kernel_rfl) (zf 4 rfl rfl) rfl (DLF_q (i := 6) (by kernel_rfl) rfl (by kernel_rfl) (by kernel_rfl) (Qt_val (zn rfl rfl) (show Value.agg (worldG (rdText x22.1.body.l 65536).2.1).2.was.cells = Value.agg (ViewV.mk (worldG (rdText x22.1.body.l 65536).2.1).2.was.num (((worldG (rdText x22.1.body.l 65536).2.1).2.was.mask.toNat : Nat) : Int)).cells from by rw [hm2c])) rfl (DLF_q (i := 7) (by kernel_rfl) rfl (by kernel_rfl) (by kernel_rfl) (zn rfl rfl) rfl (DLF_q (i := 8) (by kernel_rfl) rfl (by kernel_rfl) (by kernel_rfl) (zf 1 rfl rfl) rfl (DLF_q (i := 9) (by kernel_rfl) rfl (by kernel_rfl) (by kernel_rfl) (zl rfl) rfl ?_))))
  refine DLF_2 (i := 10) (j := 14) (by kernel_rfl) ?_ ?_
  ·
   refine DLS_e rfl rfl (zc (rProved_c (num := (worldG (rdText x22.1.body.l 65536).2.1).2.was.num) (mk := (worldG (rdText x22.1.body.l 65536).2.1).2.was.mask.toNat) hm2 (sa := sa) (sc := sc) (ls := ls) hkl (ra := ra) (rq := rq) (rs := rs) hrs (m := x22.1) hmps hmpn (ba := x43.a) (b := (rdText (x22.1.body.l.drop (rdText x22.1.body.l 65536).2.2) 65536).2.1) (bc := x43.c) (by omega)) rfl (fun x90 => ⟨SB, ?_⟩))
   refine DLF_pure (fun h90 => ?_)
   refine DLF_q (i := 11) (by kernel_rfl) rfl (by kernel_rfl) (by kernel_rfl) (zm (.tuple _) rfl) rfl (DLF_q (i := 12) (by kernel_rfl) rfl (by kernel_rfl) (by kernel_rfl) (Qt_extract rfl) rfl (DLF_q (i := 13) (by kernel_rfl) rfl (by kernel_rfl) (by kernel_rfl) (Qt_extract rfl) rfl ?_))
   refine DLF_1 (i := 14) (by kernel_rfl) ?_
   refine DLS_e rfl rfl (Ef_allocN (fun b10 => ⟨SB, ?_⟩))
   refine DLF_1 (i := 15) (by kernel_rfl) ?_
   refine DLS_n rfl (zs rfl rfl (⟨SB, ?_⟩))
   refine DLF_q (i := 16) (by kernel_rfl) rfl (by kernel_rfl) (by kernel_rfl) (za (.int .i64 _) rfl) rfl ?_
   refine DLF_nil (by kernel_rfl) ?_
   refine X_cut _ (by repeat (first | with_reducible exact agree_refl | refine agree_upd rfl ?_ | refine agree_mix rfl ?_ | refine agree_setAll rfl ?_)) (⟨b10, x90, rfl, rfl⟩) (SB)
  refine DLS_e rfl rfl (Ef_allocN (fun b10 => ⟨SB, ?_⟩))
  refine DLF_1 (i := 10) (by kernel_rfl) ?_
  refine DLS_e rfl rfl (zc (rProved_c (num := (worldG (rdText x22.1.body.l 65536).2.1).2.was.num) (mk := (worldG (rdText x22.1.body.l 65536).2.1).2.was.mask.toNat) hm2 (sa := sa) (sc := sc) (ls := ls) hkl (ra := ra) (rq := rq) (rs := rs) hrs (m := x22.1) hmps hmpn (ba := x43.a) (b := (rdText (x22.1.body.l.drop (rdText x22.1.body.l 65536).2.2) 65536).2.1) (bc := x43.c) (by omega)) rfl (fun x90 => ⟨SB, ?_⟩))
  refine DLF_pure (fun h90 => ?_)
  refine DLF_q (i := 11) (by kernel_rfl) rfl (by kernel_rfl) (by kernel_rfl) (zm (.tuple _) rfl) rfl (DLF_q (i := 12) (by kernel_rfl) rfl (by kernel_rfl) (by kernel_rfl) (Qt_extract rfl) rfl (DLF_q (i := 13) (by kernel_rfl) rfl (by kernel_rfl) (by kernel_rfl) (Qt_extract rfl) rfl ?_))
  refine DLF_1 (i := 15) (by kernel_rfl) ?_
  refine DLS_n rfl (zs rfl rfl (⟨SB, ?_⟩))
  refine DLF_q (i := 16) (by kernel_rfl) rfl (by kernel_rfl) (by kernel_rfl) (za (.int .i64 _) rfl) rfl ?_
  refine DLF_nil (by kernel_rfl) ?_
  refine X_cut _ (by repeat (first | with_reducible exact agree_refl | refine agree_upd rfl ?_ | refine agree_mix rfl ?_ | refine agree_setAll rfl ?_)) (⟨b10, x90, rfl, rfl⟩) (SB)
 rintro τc2 _ _ ⟨b10, x90, rfl, rfl⟩ _
 refine zS (T2 ?_)
 refine Qmi rfl rfl (zq (Qt_neq rfl rfl) rfl (TX (zC rfl (fun h94 => ?_) (fun h94 => ?_))))
 ·
  have p94 := h94
  try simp only [dp] at p94
  refine T2 (Qmi rfl rfl (Qai rfl rfl (TX (zQ (zr ?_)))))
  have e : snapW (ls.map BS.l) rs mk had l = none := by unfold snapW; rw [if_neg (by omega), if_neg (by omega), hbd, if_neg (by rw [hbg]; simpa using h63), hbg, if_neg (by rw [← hsl]; simpa using h71), if_neg (by rw [← hsl]; omega), if_pos (by rw [← h22]; simpa using h94)]
  exact zX (⟨la, lc, ks, (provE (ls.map BS.l) rs (worldG (rdText x22.1.body.l 65536).2.1).2.was.num (worldG (rdText x22.1.body.l 65536).2.1).2.was.mask.toNat x22.1.abs (rdText (x22.1.body.l.drop (rdText x22.1.body.l 65536).2.2) 65536).2.1)⟩ : RSN) [_] Tryz.results16 ⟨rfl, trivial⟩ rfl (fun w hw => (SB w hw : St w0 (blk p (.cells (RFetchV.mk (KeysV.mk ⟨sa, sc, ls⟩ ⟨ra, rs.length, rq⟩) (ViewV.mk num (mk : Int)) had fm ⟨la, ks.length, lc⟩).cells 55 (0, 0)) :: row (.slice la (ks).length lc) 75 103 ((ks).flatMap RKeptV.list) :: H) w).addPure ⟨by rw [stepW_none e], hK⟩)
 have p94 := h94
 try simp only [dp] at p94
 have hp0 : (provE (ls.map BS.l) rs (worldG (rdText x22.1.body.l 65536).2.1).2.was.num (worldG (rdText x22.1.body.l 65536).2.1).2.was.mask.toNat x22.1.abs (rdText (x22.1.body.l.drop (rdText x22.1.body.l 65536).2.2) 65536).2.1) = 0 := by simpa using h94
 have hsome : snapW (ls.map BS.l) rs mk had l = some (worldG (rdText x22.1.body.l 65536).2.1).2 := by unfold snapW; rw [if_neg (by omega), if_neg (by omega), hbd, if_neg (by rw [hbg]; simpa using h63), hbg, if_neg (by rw [← hsl]; simpa using h71), if_neg (by rw [← hsl]; omega), if_neg (by rw [← h22]; exact fun hh => hh hp0)]
 refine zk (zx (zS (T2 ?_)))
 refine Qai rfl rfl (TX (zB ?_))
 refine T_loop [4, 12, 96, 97, 98, 99, 100, 101, 102, 103, 104, 105, 106, 107, 108, 109, 110, 111, 112, 113, 114, 115, 116, 117] [12] (fun us H' => ∃ (k : Nat), us = [.int .i64 (k : Int)] ∧ blk b10 (.cells x90.cells 69 (0, 0)) :: blk b9 (.cells (WGotV.mk (worldG (rdText x22.1.body.l 65536).2.1).2 (worldG (rdText x22.1.body.l 65536).2.1).1).cells 126 (0, 0)) :: blk p (.cells (RFetchV.mk (KeysV.mk ⟨sa, sc, ls⟩ ⟨ra, rs.length, rq⟩) (ViewV.mk num (mk : Int)) had fm ⟨la, ks.length, lc⟩).cells 55 (0, 0)) :: row (.slice la (ks).length lc) 75 103 ((ks).flatMap RKeptV.list) :: H = H' ∧ k ≤ ks.length ∧ (∀ (j : Nat) (hj : j < ks.length), j < k → digW ks[j].w ≠ digW (worldG (rdText x22.1.body.l 65536).2.1).2)) (fun us => match us with | .int _ i :: _ => ks.length - i.toNat | _ => 0) ⟨0, rfl, rfl, by omega, fun j hj h => by omega⟩ SB ?_
 rintro τ0 _ _  ⟨k, rfl, rfl, hk0, hno⟩ _
 refine zS (T2 ?_)
 refine Qmi rfl rfl (zq (zm (.pointer _) rfl) rfl (zq (Qt_nilCheck rfl) rfl (zq (zf 6 rfl rfl) rfl (zq (zl rfl) rfl (zq (zL rfl Tryz.underlying53) rfl ?_)))))
 refine zq (Qt_lss rfl rfl) rfl (TX (zC rfl (fun h102 => ?_) (fun h102 => ?_)))
 ·
  have p102 := h102
  try simp only [dp] at p102
  have hk : k < ks.length := by omega
  refine zk (zx (zS (zB (zS ?_))))
  refine T_drawF (blk b9 (.cells (WGotV.mk (worldG (rdText x22.1.body.l 65536).2.1).2 (worldG (rdText x22.1.body.l 65536).2.1).1).cells 126 (0, 0)) :: blk p (.cells (RFetchV.mk (KeysV.mk ⟨sa, sc, ls⟩ ⟨ra, rs.length, rq⟩) (ViewV.mk num (mk : Int)) had fm ⟨la, ks.length, lc⟩).cells 55 (0, 0)) :: row (.slice la (ks).length lc) 75 103 ((ks).flatMap RKeptV.list) :: H) (by kernel_rfl) SB (DLF_q (i := 0) (by kernel_rfl) rfl (by kernel_rfl) (by kernel_rfl) (zm (.pointer _) rfl) rfl (DLF_q (i := 1) (by kernel_rfl) rfl (by kernel_rfl) (by kernel_rfl) (Qt_nilCheck rfl) rfl (DLF_q (i := 2) (by kernel_rfl) rfl (by kernel_rfl) (by kernel_rfl) (zf 6 rfl rfl) rfl (DLF_q (i := 3) (by kernel_rfl) rfl (by kernel_rfl) (by kernel_rfl) (zl rfl) rfl (DLF_q (i := 4) (by kernel_rfl) rfl (by kernel_rfl) (by kernel_rfl) (zm (.int .i64 _) rfl) rfl ?_)))))
  refine DLF_q (i := 5) (by kernel_rfl) rfl (by kernel_rfl) (by kernel_rfl) (Qt_indexN rfl rfl (by omega) (by omega)) rfl (DLF_q (i := 6) (by kernel_rfl) rfl (by kernel_rfl) (by kernel_rfl) (Qt_fieldR rfl 103 (rkept_pos hk)) rfl (DLF_q (i := 7) (by kernel_rfl) rfl (by kernel_rfl) (by kernel_rfl) (Qt_val (Qt_loadRN 103 ks[k].w.list rfl (rkept_w ks k hk) (WorldV.list_len _) (by decide)) (show Value.agg ks[k].w.list.toArray = Value.agg ks[k].w.cells from rfl)) rfl (DLF_q (i := 9) (by kernel_rfl) rfl (by kernel_rfl) (by kernel_rfl) (zf 0 rfl rfl) rfl (DLF_q (i := 10) (by kernel_rfl) rfl (by kernel_rfl) (by kernel_rfl) (zn rfl rfl) rfl ?_))))
  refine DLF_1 (i := 8) (by kernel_rfl) ?_
  refine DLS_e rfl rfl (zc (rDigestW_c (hK.good _ (List.getElem_mem hk))) rfl (fun x113 => ⟨SB, ?_⟩))
  refine DLF_1 (i := 11) (by kernel_rfl) ?_
  refine DLS_e rfl rfl (zc (rDigestW_c hgw) rfl (fun x116 => ⟨SB, ?_⟩))
  refine DLF_q (i := 12) (by kernel_rfl) rfl (by kernel_rfl) (by kernel_rfl) (Qt_agg_eql rfl rfl (by kernel_rfl)) rfl ?_
  refine DLF_nil (by kernel_rfl) ?_
  refine zx (zC rfl (fun h117 => ?_) (fun h117 => ?_))
  ·
   have p117 := h117
   try simp only [dp] at p117
   have hah : (ks.map (·.w)).any (fun x => decide (digW x = digW (worldG (rdText x22.1.body.l 65536).2.1).2)) = true := List.any_eq_true.2 ⟨ks[k].w, List.mem_map.2 ⟨_, List.getElem_mem hk, rfl⟩, h117⟩
   refine T2 (Qai rfl rfl (TX (zQ (zb (zr (X_loop_ret (zb (zr ?_))))))))
   exact zX (⟨la, lc, ks, 7⟩ : RSN) [_] Tryz.results16 ⟨rfl, trivial⟩ rfl (fun w hw => (SB w hw : St w0 (blk p (.cells (RFetchV.mk (KeysV.mk ⟨sa, sc, ls⟩ ⟨ra, rs.length, rq⟩) (ViewV.mk num (mk : Int)) had fm ⟨la, ks.length, lc⟩).cells 55 (0, 0)) :: row (.slice la (ks).length lc) 75 103 ((ks).flatMap RKeptV.list) :: H) w).addPure ⟨by rw [stepW_some hsome, pushW_old hah], hK⟩)
  have p117 := h117
  try simp only [dp] at p117
  refine zk (X_block (zx (zR ?_)))
  refine Qmi rfl rfl (zq (Qt_add rfl rfl (by omega) (by omega)) rfl (Qai rfl rfl (zz ?_)))
  apply X_loop
  case ha => exact (by repeat (first | with_reducible exact agree_refl | refine agree_upd rfl ?_ | refine agree_mix rfl ?_ | refine agree_setAll rfl ?_))
  case hI => exact ⟨k + 1, rfl, rfl, by omega, fun j hj h => by rcases Nat.lt_or_ge j k with h1 | h1; exact hno j hj h1; obtain rfl : j = k := (by omega); exact of_decide_eq_false h117⟩
  case hm => exact by show ks.length - (k + 1 : Int).toNat < ks.length - (k : Int).toNat; omega
  case hH => exact SB
 have p102 := h102
 try simp only [dp] at p102
 have hah : (ks.map (·.w)).any (fun x => decide (digW x = digW (worldG (rdText x22.1.body.l 65536).2.1).2)) = false := by
  rw [List.any_eq_false]; intro x hx; obtain ⟨y, hy, rfl⟩ := List.mem_map.1 hx; obtain ⟨j, hj, rfl⟩ := List.getElem_of_mem hy; simpa using hno j hj (by omega)
 refine zY (zG (zW (zE (zx (zS (T2 ?_))))))
 refine zq (zm (.pointer _) rfl) rfl (zq (Qt_nilCheck rfl) rfl (zq (zf 6 rfl rfl) rfl (zq (zl rfl) rfl (zq (zL rfl Tryz.underlying53) rfl (zq (Qt_geq rfl rfl) rfl ?_)))))
 refine TX (zC rfl (fun h123 => ?_) (fun h123 => ?_))
 ·
  have p123 := h123
  try simp only [dp] at p123
  refine T2 (Qai rfl rfl (TX (zQ (zr ?_))))
  exact zX (⟨la, lc, ks, 4⟩ : RSN) [_] Tryz.results16 ⟨rfl, trivial⟩ rfl (fun w hw => (SB w hw : St w0 (blk p (.cells (RFetchV.mk (KeysV.mk ⟨sa, sc, ls⟩ ⟨ra, rs.length, rq⟩) (ViewV.mk num (mk : Int)) had fm ⟨la, ks.length, lc⟩).cells 55 (0, 0)) :: row (.slice la (ks).length lc) 75 103 ((ks).flatMap RKeptV.list) :: H) w).addPure ⟨by rw [stepW_some hsome, pushW_full (by rw [List.length_map]; omega)], hK⟩)
 have p123 := h123
 try simp only [dp] at p123
 have hlt : ks.length < 16 := by omega
 refine zk (zx (zS ?_))
 refine T_drawF (blk b9 (.cells (WGotV.mk (worldG (rdText x22.1.body.l 65536).2.1).2 (worldG (rdText x22.1.body.l 65536).2.1).1).cells 126 (0, 0)) :: blk b10 (.cells x90.cells 69 (0, 0)) :: H) (by kernel_rfl) SB (DLF_q (i := 0) (by kernel_rfl) rfl (by kernel_rfl) (by kernel_rfl) (zm (.pointer _) rfl) rfl (DLF_q (i := 1) (by kernel_rfl) rfl (by kernel_rfl) (by kernel_rfl) (zm (.pointer _) rfl) rfl (DLF_q (i := 2) (by kernel_rfl) rfl (by kernel_rfl) (by kernel_rfl) (Qt_nilCheck rfl) rfl (DLF_q (i := 3) (by kernel_rfl) rfl (by kernel_rfl) (by kernel_rfl) (zf 6 rfl rfl) rfl (DLF_q (i := 5) (by kernel_rfl) rfl (by kernel_rfl) (by kernel_rfl) (zf 0 rfl rfl) rfl ?_)))))
 refine DLF_q (i := 6) (by kernel_rfl) rfl (by kernel_rfl) (by kernel_rfl) (zn rfl rfl) rfl (DLF_q (i := 7) (by kernel_rfl) rfl (by kernel_rfl) (by kernel_rfl) (zn rfl rfl) rfl (DLF_q (i := 8) (by kernel_rfl) rfl (by kernel_rfl) (by kernel_rfl) (Qt_val (Qt_build [(0, .agg _), (1, .agg _)] rfl (by kernel_rfl)) (show _ = Value.agg (RKeptV.mk (worldG (rdText x22.1.body.l 65536).2.1).2 x90).cells from rfl)) rfl ?_))
 refine DLF_2 (i := 4) (j := 9) (by kernel_rfl) ?_ ?_
 ·
  refine DLS_e rfl rfl (Ef_of_Qt (zl rfl) ⟨SB, ?_⟩)
  refine DLF_1 (i := 9) (by kernel_rfl) ?_
  refine DLS_e rfl rfl (Ef_sliceN (m := ([(RKeptV.mk (worldG (rdText x22.1.body.l 65536).2.1).2 x90)] : List RKeptV).length) [.agg ((RKeptV.mk (worldG (rdText x22.1.body.l 65536).2.1).2 x90)).cells] (([(RKeptV.mk (worldG (rdText x22.1.body.l 65536).2.1).2 x90)] : List RKeptV).flatMap RKeptV.list) rfl rfl rfl rfl (by simp [Value.cells, RKeptV.size]) rfl rfl (fun a133 c133 => ⟨SB, ?_⟩))
  refine DLF_1 (i := 10) (by kernel_rfl) ?_
  refine DLS_e rfl rfl (Ef_appendS RKeptV.list (sv := .slice _ _ _) (xv := .slice _ _ _) (xs := ks) (ys := [(RKeptV.mk (worldG (rdText x22.1.body.l 65536).2.1).2 x90)]) RKeptV.list_len RKeptV.list_one rfl rfl (by simp; omega) rfl rfl (fun a134 c134 => ⟨SB, ?_⟩))
  refine DLF_q (i := 11) (by kernel_rfl) rfl (by kernel_rfl) (by kernel_rfl) (Qt_nilCheck rfl) rfl (DLF_q (i := 12) (by kernel_rfl) rfl (by kernel_rfl) (by kernel_rfl) (zf 6 rfl rfl) rfl ?_)
  refine DLF_1 (i := 13) (by kernel_rfl) ?_
  refine DLS_n rfl (Ef_store1 (.slice _ _ _) rfl rfl (⟨SB, ?_⟩))
  refine DLF_nil (by kernel_rfl) ?_
  refine zx (T2 ?_)
  refine Qai rfl rfl (TX (zQ ?_))
  have hok : RKOK (ks ++ [(RKeptV.mk (worldG (rdText x22.1.body.l 65536).2.1).2 x90)]) := ⟨by rw [List.length_append]; simp; omega, mem_snoc hK.good hgw⟩
  exact zX (⟨a134, c134, ks ++ [(RKeptV.mk (worldG (rdText x22.1.body.l 65536).2.1).2 x90)], 0⟩ : RSN) [_] Tryz.results16 ⟨rfl, trivial⟩ rfl (fun w hw => (SB w hw : St w0 (blk p (.cells (RFetchV.mk (KeysV.mk ⟨sa, sc, ls⟩ ⟨ra, rs.length, rq⟩) (ViewV.mk num (mk : Int)) had fm ⟨a134, (ks ++ [(RKeptV.mk (worldG (rdText x22.1.body.l 65536).2.1).2 x90)]).length, c134⟩).cells 55 (0, 0)) :: row (.slice a134 (ks ++ [(RKeptV.mk (worldG (rdText x22.1.body.l 65536).2.1).2 x90)]).length c134) 75 103 ((ks ++ [(RKeptV.mk (worldG (rdText x22.1.body.l 65536).2.1).2 x90)]).flatMap RKeptV.list) :: H) w).addPure ⟨by rw [stepW_some hsome, pushW_new hah (by rw [List.length_map]; exact hlt), List.map_append]; rfl, hok⟩)
 refine DLS_e rfl rfl (Ef_sliceN (m := ([(RKeptV.mk (worldG (rdText x22.1.body.l 65536).2.1).2 x90)] : List RKeptV).length) [.agg ((RKeptV.mk (worldG (rdText x22.1.body.l 65536).2.1).2 x90)).cells] (([(RKeptV.mk (worldG (rdText x22.1.body.l 65536).2.1).2 x90)] : List RKeptV).flatMap RKeptV.list) rfl rfl rfl rfl (by simp [Value.cells, RKeptV.size]) rfl rfl (fun a133 c133 => ⟨SB, ?_⟩))
 refine DLF_1 (i := 4) (by kernel_rfl) ?_
 refine DLS_e rfl rfl (Ef_of_Qt (zl rfl) ⟨SB, ?_⟩)
 refine DLF_1 (i := 10) (by kernel_rfl) ?_
 refine DLS_e rfl rfl (Ef_appendS RKeptV.list (sv := .slice _ _ _) (xv := .slice _ _ _) (xs := ks) (ys := [(RKeptV.mk (worldG (rdText x22.1.body.l 65536).2.1).2 x90)]) RKeptV.list_len RKeptV.list_one rfl rfl (by simp; omega) rfl rfl (fun a134 c134 => ⟨SB, ?_⟩))
 refine DLF_q (i := 11) (by kernel_rfl) rfl (by kernel_rfl) (by kernel_rfl) (Qt_nilCheck rfl) rfl (DLF_q (i := 12) (by kernel_rfl) rfl (by kernel_rfl) (by kernel_rfl) (zf 6 rfl rfl) rfl ?_)
 refine DLF_1 (i := 13) (by kernel_rfl) ?_
 refine DLS_n rfl (Ef_store1 (.slice _ _ _) rfl rfl (⟨SB, ?_⟩))
 refine DLF_nil (by kernel_rfl) ?_
 refine zx (T2 ?_)
 refine Qai rfl rfl (TX (zQ ?_))
 have hok : RKOK (ks ++ [(RKeptV.mk (worldG (rdText x22.1.body.l 65536).2.1).2 x90)]) := ⟨by rw [List.length_append]; simp; omega, mem_snoc hK.good hgw⟩
 exact zX (⟨a134, c134, ks ++ [(RKeptV.mk (worldG (rdText x22.1.body.l 65536).2.1).2 x90)], 0⟩ : RSN) [_] Tryz.results16 ⟨rfl, trivial⟩ rfl (fun w hw => (SB w hw : St w0 (blk p (.cells (RFetchV.mk (KeysV.mk ⟨sa, sc, ls⟩ ⟨ra, rs.length, rq⟩) (ViewV.mk num (mk : Int)) had fm ⟨a134, (ks ++ [(RKeptV.mk (worldG (rdText x22.1.body.l 65536).2.1).2 x90)]).length, c134⟩).cells 55 (0, 0)) :: row (.slice a134 (ks ++ [(RKeptV.mk (worldG (rdText x22.1.body.l 65536).2.1).2 x90)]).length c134) 75 103 ((ks ++ [(RKeptV.mk (worldG (rdText x22.1.body.l 65536).2.1).2 x90)]).flatMap RKeptV.list) :: H) w).addPure ⟨by rw [stepW_some hsome, pushW_new hah (by rw [List.length_map]; exact hlt), List.map_append]; rfl, hok⟩)
end
end Go.Proofs.YtnijomppbgdmnaaGreat
