/- What fetches keep, as data; the digest of a world. -/
import Derived.Test.YtnijomppbgdmnaaGreatSgP
import Derived.Test.YtnijomppbgdmnaaGreatYdRP
import Derived.Test.YtnijomppbgdmnaaGreatTwP
import Derived.Test.YtnijomppbgdmnaaGreatSjRP
import Derived.Test.YtnijomppbgdmnaaGreatMbRP
import Derived.Test.YtnijomppbgdmnaaGreatRrRP
import Derived.Test.YtnijomppbgdmnaaGreatVaRP
import Derived.Test.YtnijomppbgdmnaaGreatQcRP
import Derived.Test.YtnijomppbgdmnaaGreatXsRP
set_option linter.unusedSimpArgs false
set_option linter.unusedVariables false
namespace Go.Proofs.YtnijomppbgdmnaaGreat
section
open Go.RowKit Go.Sx
set_option maxRecDepth 100000
/-- A world's digest. -/
def digW (w : WorldV) : Vector UInt8 32 := sha (worldB w.slot w.first w.view.num w.view.mask.toNat w.was.num w.was.mask.toNat w.cs w.last)
def provE (K : List (List UInt8)) (rs : List (Vector UInt8 32)) (num : Int) (mk : Nat) (m : MsgD) (b : List UInt8) : Int :=
 if cbE rs b ≠ 0 then cbE rs b else if sha b ≠ m.hash then 11 else (decidD K num mk m.slot m.hash m.parts).2
/-- The world that a part tells, if it is taken. -/
def snapW (K : List (List UInt8)) (rs : List (Vector UInt8 32)) (mk : Nat) (had : Int) (l : List UInt8) : Option WorldV :=
 if (openOfK K mk l).1 ≠ 0 then none else if (openOfK K mk l).2.kind ≠ 11 then none
 else if (bodyG (openOfK K mk l).2.body).1 ≠ 0 then none else if (bodyG (openOfK K mk l).2.body).2.1.slot ≠ (openOfK K mk l).2.slot then none
 else if (openOfK K mk l).2.slot ≤ had then none
 else if provE K rs (bodyG (openOfK K mk l).2.body).2.1.was.num (bodyG (openOfK K mk l).2.body).2.1.was.mask.toNat (openOfK K mk l).2 (bodyG (openOfK K mk l).2.body).2.2 ≠ 0 then none
 else some (bodyG (openOfK K mk l).2.body).2.1
def pushW (ws : List WorldV) (w : WorldV) : List WorldV := if ws.any (fun x => decide (digW x = digW w)) = true then ws else if 16 ≤ ws.length then ws else ws ++ [w]
def stepW (K : List (List UInt8)) (rs : List (Vector UInt8 32)) (mk : Nat) (had : Int) (ws : List WorldV) (l : List UInt8) : List WorldV := match snapW K rs mk had l with | none => ws | some w => pushW ws w
theorem stepW_none {K : List (List UInt8)} {rs : List (Vector UInt8 32)} {mk : Nat} {had : Int} {ws : List WorldV} {l : List UInt8} (h : snapW K rs mk had l = none) : stepW K rs mk had ws l = ws := by unfold stepW; rw [h]
theorem stepW_some {K : List (List UInt8)} {rs : List (Vector UInt8 32)} {mk : Nat} {had : Int} {ws : List WorldV} {l : List UInt8} {w : WorldV} (h : snapW K rs mk had l = some w) : stepW K rs mk had ws l = pushW ws w := by unfold stepW; rw [h]
theorem pushW_old {ws : List WorldV} {w : WorldV} (h : ws.any (fun x => decide (digW x = digW w)) = true) : pushW ws w = ws := if_pos h
theorem pushW_full {ws : List WorldV} {w : WorldV} (h : 16 ≤ ws.length) : pushW ws w = ws := by
 unfold pushW
 repeat' split
 all_goals first | rfl | omega
theorem pushW_new {ws : List WorldV} {w : WorldV} (h : ws.any (fun x => decide (digW x = digW w)) = false) (h2 : ws.length < 16) : pushW ws w = ws ++ [w] := by unfold pushW; rw [if_neg (by rw [h]; decide), if_neg (by omega)]
/-- A mark: who marked which slot with which digest. -/
abbrev MkD := Int × Int × Vector UInt8 32
def markM (K : List (List UInt8)) (mk : Nat) (had : Int) (M : List MkD) (l : List UInt8) : List MkD :=
 if (openOfK K mk l).1 ≠ 0 then M else if (openOfK K mk l).2.kind ≠ 10 then M else if (openOfK K mk l).2.slot ≤ had then M
 else if M.any (fun x => decide (x.1 = (openOfK K mk l).2.frm ∧ x.2.1 = (openOfK K mk l).2.slot)) = true then M
 else M ++ [((openOfK K mk l).2.frm, (openOfK K mk l).2.slot, (openOfK K mk l).2.hash)]
def hitM (s : Int) (h : Vector UInt8 32) (x : MkD) : Bool := decide (x.2.1 = s ∧ x.2.2 = h)
def cntM (M : List MkD) (w : WorldV) : Nat := (M.filter (hitM w.slot (digW w))).length
def Qual (num : Int) (mk : Nat) (M : List MkD) (w : WorldV) : Prop := someV num mk ≠ 0 ∧ someV num mk ≤ cntM M w
def mskM (M : List MkD) (s : Int) (h : Vector UInt8 32) : Nat := (M.filter (hitM s h)).foldl (fun a x => a ||| 2 ^ x.1.toNat) 0
structure OkM (M : List MkD) : Prop where
 bnd : ∀ x ∈ M, 0 ≤ x.1 ∧ x.1 < 16
 uniq : M.Pairwise fun x y => ¬ (x.1 = y.1 ∧ x.2.1 = y.2.1)
theorem mskM_snoc (M : List MkD) (x : MkD) (s : Int) (h : Vector UInt8 32) : mskM (M ++ [x]) s h = if hitM s h x = true then mskM M s h ||| 2 ^ x.1.toNat else mskM M s h := by
 unfold mskM
 rw [List.filter_append, List.foldl_append]
 by_cases hx : hitM s h x = true
 · rw [if_pos hx, List.filter_cons_of_pos hx]; rfl
 · rw [if_neg hx, List.filter_cons_of_neg hx]; rfl
theorem fold_bit : ∀ (L : List MkD) (a i : Nat), (L.foldl (fun a x => a ||| 2 ^ x.1.toNat) a).testBit i = true ↔ a.testBit i = true ∨ ∃ x ∈ L, x.1.toNat = i
 | [], a, i => by simp
 | x :: L, a, i => by
  rw [List.foldl_cons, fold_bit L, Nat.testBit_or, Bool.or_eq_true, Nat.testBit_two_pow, decide_eq_true_eq]
  constructor
  · rintro ((h | h) | ⟨y, hy, h⟩)
    · exact .inl h
    · exact .inr ⟨x, List.mem_cons_self .., h⟩
    · exact .inr ⟨y, List.mem_cons_of_mem _ hy, h⟩
  · rintro (h | ⟨y, hy, h⟩)
    · exact .inl (.inl h)
    · rcases List.mem_cons.1 hy with rfl | hy
      · exact .inl (.inr h)
      · exact .inr ⟨y, hy, h⟩
theorem mskM_lt {M : List MkD} (hM : OkM M) (s : Int) (h : Vector UInt8 32) : mskM M s h < 65536 := by
 refine Nat.lt_of_not_le (fun hge => ?_)
 obtain ⟨i, hi, hb⟩ := Nat.exists_ge_and_testBit_of_ge_two_pow (n := 16) (x := mskM M s h) hge
 unfold mskM at hb
 rw [fold_bit] at hb
 rcases hb with hb | ⟨x, hx, he⟩
 · simp at hb
 · have := hM.bnd x (List.mem_filter.1 hx).1
   omega
theorem nodup_map_of {α β : Type} (f : α → β) : ∀ {L : List α}, L.Pairwise (fun x y => f x ≠ f y) → (L.map f).Nodup
 | [], _ => List.nodup_nil
 | x :: L, h => by
  rw [List.pairwise_cons] at h
  rw [List.map_cons, List.nodup_cons]
  refine ⟨fun hm => ?_, nodup_map_of f h.2⟩
  obtain ⟨y, hy, he⟩ := List.mem_map.1 hm
  exact h.1 y hy he.symm
/-- So many marked a slot's digest as the mask has bits. -/
theorem mskM_ones {M : List MkD} (hM : OkM M) (s : Int) (h : Vector UInt8 32) : ones16 (mskM M s h) = (M.filter (hitM s h)).length := by
 rw [ones16_mem (mskM_lt hM s h)]
 have hd : ((M.filter (hitM s h)).map fun x => x.1.toNat).Nodup := by
  refine nodup_map_of _ ?_
  refine List.Pairwise.imp_of_mem ?_ (List.Pairwise.filter _ hM.uniq)
  intro x y hx hy hne he
  have h1 := hM.bnd x (List.mem_filter.1 hx).1
  have h2 := hM.bnd y (List.mem_filter.1 hy).1
  have h3 := of_decide_eq_true (List.mem_filter.1 hx).2
  have h4 := of_decide_eq_true (List.mem_filter.1 hy).2
  exact hne ⟨by omega, by rw [h3.1, h4.1]⟩
 have hp := (List.perm_ext_iff_of_nodup (memK_nodup (mskM M s h)) hd).2 (fun i => by
  rw [mem_memK, List.mem_map]
  unfold mskM
  rw [fold_bit]
  constructor
  · rintro ⟨-, h0 | ⟨x, hx, he⟩⟩
    · simp at h0
    · exact ⟨x, hx, he⟩
  · rintro ⟨x, hx, he⟩
    have := hM.bnd x (List.mem_filter.1 hx).1
    exact ⟨by omega, .inr ⟨x, hx, he⟩⟩)
 rw [hp.length_eq, List.length_map]
theorem OkM.step {K : List (List UInt8)} {mk : Nat} {had : Int} {M : List MkD} {l : List UInt8} (h : OkM M) : OkM (markM K mk had M l) := by
 have hf := opn_frm K mk l
 unfold markM
 repeat' split
 · exact h
 · exact h
 · exact h
 · exact h
 · rename_i hn
   refine ⟨fun x hx => ?_, ?_⟩
   · rcases List.mem_append.1 hx with hx | hx
     · exact h.bnd x hx
     · rw [List.mem_singleton.1 hx]; exact hf
   · rw [List.pairwise_append]
     refine ⟨h.uniq, List.pairwise_singleton _ _, fun x hx y hy hxy => ?_⟩
     rw [List.mem_singleton.1 hy] at hxy
     exact hn (List.any_eq_true.2 ⟨x, hx, decide_eq_true hxy⟩)
attribute [local irreducible] worldB
theorem digestW_c {w0 : World} {H : List SA} {w : WorldV} (hg : GoodW w) : CT Tryz.prog w0 H 41 [.agg w.cells] (α := Unit) (fun _ => .agg (hlist (digW w)).toArray) (fun _ => H) := by
 obtain ⟨⟨m1, hm1, e1⟩, ⟨m2, hm2, e2⟩, hcs, hrs⟩ := hg
 obtain ⟨s, f, ⟨n1, k1⟩, ⟨n2, k2⟩, cs, rs⟩ := w
 dsimp only at e1 e2 hcs hrs
 subst e1; subst e2
 exact digest_c hm1 hm2 hcs hrs
theorem rDigestW_c {w0 : World} {H : List SA} {w : WorldV} (hg : GoodW w) : CT Tryz.prog w0 H 47 [.agg w.cells] (α := Unit) (fun _ => .agg (hlist (digW w)).toArray) (fun _ => H) := by
 obtain ⟨⟨m1, hm1, e1⟩, ⟨m2, hm2, e2⟩, hcs, hrs⟩ := hg
 obtain ⟨s, f, ⟨n1, k1⟩, ⟨n2, k2⟩, cs, rs⟩ := w
 dsimp only at e1 e2 hcs hrs
 subst e1; subst e2
 exact rDigest_c hm1 hm2 hcs hrs
end
section
open Go.RowKit Go.Sx
set_option maxRecDepth 100000
set_option maxHeartbeats 1000000
attribute [local irreducible] sha cbE decidD worldG bodyG openOfK digW
theorem Ef_appendL {P : Program} {w0 : World} {σ : Env} {H : List SA} {d : Option Nat} {ty : TypeId} {pos : String} {aft : Array Edge} {g : Option (Nat × Bool)} {K : Value → List SA → Prop} {s x : Operand} {t e : Nat} {sv xv : Value} {l l' : List UInt8} {Hr : List SA} (hs : ev σ s = sv) (hx : ev σ x = xv) [ht : TySl P t e 1 1] [hr : PickB sv H e l Hr] [hn : RdB w0 H xv l']
 (hb : l.length + l'.length ≤ 140737488355328) (hby : Nat.ble 1 32768 = true)
 (h : ∀ a c, K (.slice a (l ++ l').length c) (row (.slice a (l ++ l').length c) e 1 (bytesV (l ++ l')) :: Hr)) : Ef P w0 H σ ⟨d, .call ⟨.builtin .append, #[s, x], #[t, t]⟩, ty, pos, aft, g⟩ K := by
 obtain ⟨i, z, hi, hz, hsz, hby', hzs⟩ := ht.spec
 refine (Ef_append (K := fun v H' => H' = row v e 1 (bytesV l ++ bytesV l') :: Hr) (m := l'.length) sv xv hs hx (fun w hw => hr.st hw) hn.rd ht.ht hi hz hsz hby' hzs ht.pos (by simp) (bytesV_one l') (by simp; omega) (by simp; omega) (fun _ => rfl)).mono ?_
 intro v H' w hH hw
 subst hH
 rw [bytesV_append] at hw
 obtain ⟨a, c, rfl⟩ := row_form hw
 rw [bytesV_length] at hw
 exact ⟨_, by simpa using h a c, hw⟩

theorem cloneL_c {w0 : World} {H : List SA} {a : Option Addr} {l : List UInt8} {c : Nat} [hr : RdB w0 H (.slice a l.length c) l] (hl : l.length ≤ 140737488355328) :
 CT Tryz.prog w0 (H) 50 [.slice a l.length c] (α := AC) (fun x => .slice x.a l.length x.c) (fun x => row (.slice x.a l.length x.c) 5 1 (bytesV l) :: H) := by
 refine CT_intro Tryz.func50 rfl Tryz.ntmps50 rfl (T2 (Qas rfl rfl (TX (zS (T2 (Qms rfl rfl (zy (Qt_slice_nil rfl rfl Tryz.underlying33) (TX (zC rfl (fun h4 => ?_) (fun h4 => ?_))))))))))
 ·
  have p4 := cL h4
  refine T2 (Qas rfl rfl (TX (zQ (zr ?_))))
  subst p4
  refine X_know (fun w hw => BytesAt.none (hr.rd w hw)) (fun hnil => ?_)
  subst hnil
  exact zX ⟨none, 0⟩ [.slice none 0 0] Tryz.results50 ⟨rfl, trivial⟩ rfl (fun w hw => hw.addNilB 5)
 have p4 := cL h4
 refine S4 (ze rfl (Ef_slice0 (fun a5 c5 => ?_)))
 refine Qms rfl rfl (ze rfl (Ef_appendL (sv := .slice _ _ _) (xv := .slice _ _ _) rfl rfl (by simp; omega) rfl (fun a7 c7 => ?_)))
 simp only [List.nil_append]
 refine Qas rfl rfl (TX (zQ ?_))
 exact zX ⟨a7, c7⟩ [_] Tryz.results50 ⟨rfl, trivial⟩ rfl SB
theorem cloned_c {w0 : World} {H : List SA} {sa : Option Addr} {sc : Nat} {ls : List BS} [rk : RdC w0 H (.slice sa ls.length sc) 1 (ls.map BS.val)] [rke : RdE w0 H ls] (hkl : ∀ x ∈ ls, x.l.length ≤ 140737488351232) (hn : ls.length ≤ 1000) :
 CT Tryz.prog w0 (H) 37 [.slice sa ls.length sc] (α := PS × List Nat) (fun y => .slice y.1.a y.1.ls.length y.1.c) (fun y => pu (y.1.ls.map BS.l = ls.map BS.l) :: dat y.2 (Deep.leads (PS.mk y.1.a y.1.c y.1.ls)) :: H) := by
 refine CT_intro Tryz.func37 rfl Tryz.ntmps37 rfl (T2 (Qas rfl rfl (T4 (Qas rfl rfl (TX (zS (T2 (Qms rfl rfl (zy (zL rfl Tryz.underlying28) (Qmi rfl rfl (TX (zB ?_))))))))))))
 refine T_loop [3, 5, 8, 9, 10, 11, 12, 13, 14, 15, 16, 17] [8, 3] (fun us H' => ∃ (k : Nat) (a : Option Addr) (c : Nat) (os : List BS) (fp : List Nat), us = [.int .i64 (k : Int), .slice a os.length c] ∧ row (.slice a (os).length c) 33 1 ((os).map BS.val) :: eachA fp os :: H = H' ∧ k ≤ ls.length ∧ (os.map BS.l = (ls.map BS.l).take k) ∧ (os.length = k)) (fun us => match us with | .int _ i :: _ => ls.length - i.toNat | _ => 0) ⟨0, none, 0, [], [], rfl, rfl, by omega, rfl, rfl⟩ (fun w hw => by
  have h0 : St w0 H w := SB w hw
  exact (h0.eachNil).addNil 33 1) ?_
 rintro τ0 _ _  ⟨k, a, c, os, fp, rfl, rfl, hk0, hos, hol⟩ _
 refine T2 (zy (Qt_lss rfl rfl) (TX (zS (zC rfl (fun h9 => ?_) (fun h9 => ?_)))))
 ·
  have p9 := cL h9
  have hk : k < ls.length := by omega
  refine zk (zx (zS (zB (T2 (zy (Qt_indexR rfl rfl (by omega) (by simp; omega)) (zy (Qt_loadR (.slice _ _ _) rfl (vals_get _ _ hk)) (Qas rfl rfl (TX (zR (Qms rfl rfl (Qms rfl rfl ?_)))))))))))
  have : RdB w0 H (.slice ls[k].a ls[k].l.length ls[k].c) ls[k].l := rke.get (List.getElem_mem hk)
  refine ze rfl (zc (cloneL_c (by have := hkl _ (List.getElem_mem hk); omega)) rfl (fun x14 => ?_))
  refine ze rfl (Ef_slice1 (v := .slice _ _ _) rfl (fun a15 c15 => ?_))
  refine ze rfl (Ef_appendP (sv := .slice _ _ _) (xv := .slice _ _ _) ⟨x14.a, x14.c, ls[k].l⟩ rfl rfl (by omega) rfl (fun a16 c16 => ?_))
  refine Qas rfl rfl (zz (X_block (zx (zR (zy (zj rfl rfl) (Qmi rfl rfl (zz ?_)))))))
  apply X_loop
  case ha => exact zA
  case hI => exact ⟨k + 1, a16, c16, os ++ [⟨x14.a, x14.c, ls[k].l⟩], rowFp (.slice x14.a ls[k].l.length x14.c) ++ fp, rfl, rfl, by omega, by rw [List.map_append, hos, take_get _ _ (by simpa using hk)]; simp, by simp [hol]⟩
  case hm => exact by show ls.length - (k + 1 : Int).toNat < ls.length - (k : Int).toNat; omega
  case hH => exact fun w hw => eachUnder (SB w hw : St w0 (row (.slice a16 (os ++ [(⟨x14.a, x14.c, ls[k].l⟩ : BS)]).length c16) 33 1 ((os ++ [(⟨x14.a, x14.c, ls[k].l⟩ : BS)]).map BS.val) :: row (BS.val ⟨x14.a, x14.c, ls[k].l⟩) 5 1 (bytesV (BS.l ⟨x14.a, x14.c, ls[k].l⟩)) :: eachA fp os :: H) w)
 have p9 := cL h9
 have hos : os.map BS.l = ls.map BS.l := by rw [hos]; exact List.take_of_length_le (by simp; omega)
 refine zY (zG (zW (zE (zx (T2 (Qms rfl rfl (Qas rfl rfl (TX (zQ (X_conv (fun w hw => St.datPS (a := a) (c := c) (ls := os) (fp := fp) (e := 33) (H := H) (SB w hw)) (fun fp2 => ?_)))))))))))
 exact zX (⟨a, c, os⟩, fp2) [_] Tryz.results37 ⟨rfl, trivial⟩ rfl (fun w hw => (SB w hw : St w0 (dat fp2 (Deep.leads (PS.mk a c os)) :: H) w).addPure hos)
theorem provA (K : List (List UInt8)) (rs : List (Vector UInt8 32)) (num : Int) (mk : Nat) (m : MsgV) (b : List UInt8) : provE K rs num mk m.abs b = if cbE rs b ≠ 0 then cbE rs b else if sha b ≠ m.hash then 11 else (decidD K num mk m.slot m.hash (m.parts.ls.map BS.l)).2 := rfl
theorem datSlotOf {w0 w : World} {H : List SA} {x : BS} {ps : PS} {fp : List Nat} {e : TypeId} (h : St w0 (row (.slice x.a x.l.length x.c) e 1 (bytesV x.l) :: dat fp (Deep.leads ps) :: H) w) : St w0 (dat (rowFp (.slice x.a x.l.length x.c) ++ fp) ⟨[x], [ps], []⟩ :: H) w := h.datB.datAdd
structure SlotR where
 s : SlotV
 fp : List Nat
 ld : Leads
theorem proved_c {w0 : World} {H : List SA} {num : Int} {mk : Nat} (hmk : mk < 65536) {sa : Option Addr} {sc : Nat} {ls : List BS} [rk : RdC w0 H (.slice sa ls.length sc) 1 (ls.map BS.val)] [rke : RdE w0 H ls] (hkl : ∀ x ∈ ls, x.l.length ≤ 4294967000) {ra : Option Addr} {rq : Nat} {rs : List (Vector UInt8 32)} [hrr : RdC w0 H (.slice ra rs.length rq) 32 (rs.flatMap hlist)] (hrs : rs.length ≤ 1000) {m : MsgV} [rb : RdB w0 H (.slice m.body.a m.body.l.length m.body.c) m.body.l] [rc : RdC w0 H (.slice m.parts.a m.parts.ls.length m.parts.c) 1 (m.parts.ls.map BS.val)] [re : RdE w0 H m.parts.ls] (hps : ∀ x ∈ m.parts.ls, x.l.length ≤ 4294960000) (hpn : m.parts.ls.length ≤ 16) {ba : Option Addr} {b : List UInt8} {bc : Nat} [hb : RdB w0 H (.slice ba b.length bc) b] (hbl : b.length ≤ 4294960000) :
 CT Tryz.prog w0 (H) 40 [.agg (KeysV.mk ⟨sa, sc, ls⟩ ⟨ra, rs.length, rq⟩).cells, .agg (ViewV.mk num (mk : Int)).cells, .agg m.cells, .slice ba b.length bc] (α := SlotR) (fun y => .tuple #[.agg y.s.cells, .int .i64 (provE (ls.map BS.l) rs num mk m.abs b)]) (fun y => pu ((provE (ls.map BS.l) rs num mk m.abs b) = 0 → y.ld = ⟨[y.s.batch], [y.s.parts], []⟩ ∧ y.s.n = m.slot ∧ y.s.batch.l.length ≤ 4294960000 ∧ y.s.parts.ls.length ≤ 16 ∧ ∀ z ∈ y.s.parts.ls, z.l.length ≤ 4294960000) :: dat y.fp y.ld :: H) := by
 refine CT_intro Tryz.func40 rfl Tryz.ntmps40 rfl (T2 (ze rfl (Ef_boxN rfl (fun b4 => ?_))))
 refine ze rfl (Ef_boxN rfl (fun b5 => ?_))
 refine ze rfl (Ef_boxN rfl (fun b6 => ?_))
 refine ze rfl (Ef_allocN (fun b8 => ?_))
 refine Qai rfl rfl (TX (zS (T2 (zy (zn rfl rfl) (Qms rfl rfl (ze rfl (zc (checkBatchE_c (sa := sa) (sc := sc) (ks := ls) (rc := rq) (rs := rs) hrs (l := b) (by omega)) rfl (fun x17 => ?_))))))))
 refine zy (zm (.tuple _) rfl) (zy (Qt_extract rfl) (zy (Qt_extract rfl) (Qas rfl rfl (Qai rfl rfl (T4 (Qmi rfl rfl (zy (Qt_neq rfl rfl) (TX (zC rfl (fun h21 => ?_) (fun h21 => ?_))))))))))
 ·
  have p21 := cL h21
  refine T2 (zy (zw [] rfl) (Qmi rfl rfl (zN (zs rfl rfl (Qai rfl rfl (TX (zQ (zr ?_))))))))
  have e : (provE (ls.map BS.l) rs num mk m.abs b) = cbE rs b := by rw [provA, if_pos (by simpa using h21)]
  rw [e]
  have e0 : cbE rs b ≠ 0 := by simpa using h21
  exact zX (⟨SlotV.zero, [], .nil⟩ : SlotR) [_, _] Tryz.results40 ⟨⟨_, rfl, res_cellN rfl⟩, rfl, trivial⟩ rfl (fun w hw => St.addPure ((SB w hw : St w0 H w).datNil) (fun h => absurd h e0))
 have p21 := cL h21
 refine zk (zx (zS (zS (zD (blk b6 (.cells m.cells 82 (0, 0)) :: H) [(0, true), (2, true), (3, true), (1, false), (4, true)] SB (fun hns0 => ?_)))))
 refine zd hns0 rfl (zm (.slice _ _ _) rfl) rfl (zd hns0 rfl (zf 5 rfl rfl) rfl (zd hns0 rfl (zn rfl rfl) rfl (DL_e rfl rfl (zc (sum_c (l := b) (by omega)) rfl (fun x25 => ⟨SB, ?_⟩)))))
 refine zd hns0 rfl (Qt_agg_neq rfl rfl (by kernel_rfl)) rfl (DL_nil (zx (zC rfl (fun h28 => ?_) (fun h28 => ?_))))
 ·
  have p28 := cL h28
  refine T2 (zy (zw [] rfl) (zN (zs rfl rfl (Qai rfl rfl (TX (zQ (zr ?_)))))))
  have e : (provE (ls.map BS.l) rs num mk m.abs b) = 11 := by rw [provA, if_neg (by simpa using h21), if_pos (by simpa using h28)]
  rw [e]
  have e0 : (11 : Int) ≠ 0 := by first | decide | assumption
  exact zX (⟨SlotV.zero, [], .nil⟩ : SlotR) [_, _] Tryz.results40 ⟨⟨_, rfl, res_cellN rfl⟩, rfl, trivial⟩ rfl (fun w hw => St.addPure ((SB w hw : St w0 H w).datNil) (fun h => absurd h e0))
 have p28 := cL h28
 refine zk (zx (zS (T2 (zy (zn rfl rfl) (zy (zn rfl rfl) (zy (zf 4 rfl rfl) (zy (zl rfl) (zy (zf 5 rfl rfl) (zy (zn rfl rfl) ?_)))))))))
 refine zy (zf 38 rfl rfl) (zy (zl rfl) (ze rfl (zc (decided_c (num := num) hmk (sa := sa) (sc := sc) (ls := ls) (rt := ⟨ra, rs.length, rq⟩) (ps := m.parts.ls) hkl hps (by omega) (slot := m.slot) (h := m.hash)) rfl (fun x39 => ?_))))
 refine zy (zm (.tuple _) rfl) (zy (Qt_extract rfl) (zy (Qt_extract rfl) (Qai rfl rfl (Qai rfl rfl (T4 (Qmi rfl rfl (zy (Qt_neq rfl rfl) (TX (zC rfl (fun h43 => ?_) (fun h43 => ?_))))))))))
 ·
  have p43 := cL h43
  refine T2 (zy (zw [] rfl) (Qmi rfl rfl (zN (zs rfl rfl (Qai rfl rfl (TX (zQ (zr ?_))))))))
  have e : (provE (ls.map BS.l) rs num mk m.abs b) = (decidD (ls.map BS.l) num mk m.slot m.hash (m.parts.ls.map BS.l)).2 := by rw [provA, if_neg (by simpa using h21), if_neg (by simpa using h28)]
  rw [e]
  have e0 : ((decidD (ls.map BS.l) num mk m.slot m.hash (m.parts.ls.map BS.l)).2 : Int) ≠ 0 := by simpa using h43
  exact zX (⟨SlotV.zero, [], .nil⟩ : SlotR) [_, _] Tryz.results40 ⟨⟨_, rfl, res_cellN rfl⟩, rfl, trivial⟩ rfl (fun w hw => St.addPure ((SB w hw : St w0 H w).datNil) (fun h => absurd h e0))
 have p43 := cL h43
 refine zk (zx (zS ?_))
 refine T_drawF (blk b6 (.cells m.cells 82 (0, 0)) :: H) (by kernel_rfl) SB (zI (i := 0) rfl (zf 4 rfl rfl) (zI (i := 1) rfl (zl rfl) (zI (i := 2) rfl (zf 5 rfl rfl) (zI (i := 3) rfl (zn rfl rfl) (zI (i := 4) rfl (zm (.slice _ _ _) rfl) ?_)))))
 refine zI (i := 6) rfl (zf 38 rfl rfl) (zI (i := 7) rfl (zl rfl) (zV (i := 5) (DLS_e rfl rfl (zc (cloneL_c (l := b) (by omega)) rfl (fun x51 => ⟨SB, ?_⟩)))))
 refine zV (i := 8) (DLS_e rfl rfl (zc (cloned_c (ls := m.parts.ls) (fun x hx => by have := hps x hx; omega) (by omega)) rfl (fun x54 => ⟨SB, ?_⟩)))
 refine DLF_pure (fun h54 => ?_)
 refine zI (i := 9) rfl (zw [(0, (.int .i64 _)), (1, (.agg _)), (2, .slice _ _ _), (3, .slice _ _ _)] rfl) (zV (i := 10) (DLS_n rfl (zs rfl rfl (⟨SB, (zI (i := 11) rfl (za (.int .i64 _) rfl) (DLF_nil (by kernel_rfl) (zx (zQ ?_))))⟩))))
 have e : (provE (ls.map BS.l) rs num mk m.abs b) = 0 := by rw [provA, if_neg (by simpa using h21), if_neg (by simpa using h28)]; simpa using h43
 rw [e]
 have hnp : x54.1.ls.length = m.parts.ls.length := by have := congrArg List.length h54; simpa using this
 have hep : ∀ z ∈ x54.1.ls, z.l.length ≤ 4294960000 := fun z hz => by
  have h1 : z.l ∈ m.parts.ls.map BS.l := h54 ▸ List.mem_map.2 ⟨z, hz, rfl⟩
  obtain ⟨y, hy, he⟩ := List.mem_map.1 h1
  rw [← he]; exact hps y hy
 exact zX (⟨⟨m.slot, m.hash, ⟨x51.a, x51.c, b⟩, x54.1⟩, _, _⟩ : SlotR) [_, _] Tryz.results40 ⟨⟨_, rfl, res_cellN rfl⟩, rfl, trivial⟩ rfl (fun w hw => St.addPure (datSlotOf (SB w hw : St w0 (row (.slice x51.a (b).length x51.c) 5 1 (bytesV (b)) :: dat x54.2 (Deep.leads (PS.mk x54.1.a x54.1.c x54.1.ls)) :: H) w)) (fun _ => ⟨rfl, rfl, hbl, by show x54.1.ls.length ≤ 16; omega, hep⟩))
theorem rProved_c {w0 : World} {H : List SA} {num : Int} {mk : Nat} (hmk : mk < 65536) {sa : Option Addr} {sc : Nat} {ls : List BS} [rk : RdC w0 H (.slice sa ls.length sc) 1 (ls.map BS.val)] [rke : RdE w0 H ls] (hkl : ∀ x ∈ ls, x.l.length ≤ 4294967000) {ra : Option Addr} {rq : Nat} {rs : List (Vector UInt8 32)} [hrr : RdC w0 H (.slice ra rs.length rq) 32 (rs.flatMap hlist)] (hrs : rs.length ≤ 1000) {m : MsgV} [rb : RdB w0 H (.slice m.body.a m.body.l.length m.body.c) m.body.l] [rc : RdC w0 H (.slice m.parts.a m.parts.ls.length m.parts.c) 1 (m.parts.ls.map BS.val)] [re : RdE w0 H m.parts.ls] (hps : ∀ x ∈ m.parts.ls, x.l.length ≤ 4294960000) (hpn : m.parts.ls.length ≤ 16) {ba : Option Addr} {b : List UInt8} {bc : Nat} [hb : RdB w0 H (.slice ba b.length bc) b] (hbl : b.length ≤ 4294960000) :
 CT Tryz.prog w0 (H) 46 [.agg (KeysV.mk ⟨sa, sc, ls⟩ ⟨ra, rs.length, rq⟩).cells, .agg (ViewV.mk num (mk : Int)).cells, .agg m.cells, .slice ba b.length bc] (α := SlotV) (fun y => .tuple #[.agg y.cells, .int .i64 (provE (ls.map BS.l) rs num mk m.abs b)]) (fun y => pu ((provE (ls.map BS.l) rs num mk m.abs b) = 0 → y.n = m.slot) :: H) := by
 refine CT_intro Tryz.func46 rfl Tryz.ntmps46 rfl (T2 (ze rfl (Ef_boxN rfl (fun b4 => ?_))))
 refine ze rfl (Ef_boxN rfl (fun b5 => ?_))
 refine ze rfl (Ef_boxN rfl (fun b6 => ?_))
 refine ze rfl (Ef_allocN (fun b8 => ?_))
 refine Qai rfl rfl (T4 (zy (zn rfl rfl) (Qms rfl rfl (ze rfl (zc (rCheckBatch_c (sa := sa) (sc := sc) (ks := ls) (rc := rq) (rs := rs) hrs (l := b) (by omega)) rfl (fun x17 => ?_))))))
 refine zy (zm (.tuple _) rfl) (zy (Qt_extract rfl) (zy (Qt_extract rfl) (Qas rfl rfl (Qai rfl rfl (TX (zS (T2 (Qmi rfl rfl (zy (Qt_neq rfl rfl) (TX (zC rfl (fun h21 => ?_) (fun h21 => ?_))))))))))))
 ·
  have p21 := cL h21
  refine T2 (zy (zw [] rfl) (Qmi rfl rfl (zN (zs rfl rfl (Qai rfl rfl (TX (zQ (zr ?_))))))))
  have e : (provE (ls.map BS.l) rs num mk m.abs b) = cbE rs b := by rw [provA, if_pos (by simpa using h21)]
  rw [e]
  have e0 : cbE rs b ≠ 0 := by simpa using h21
  exact zX SlotV.zero [_, _] Tryz.results46 ⟨⟨_, rfl, res_cellN rfl⟩, rfl, trivial⟩ rfl (fun w hw => St.addPure (SB w hw : St w0 H w) (fun h => absurd h e0))
 have p21 := cL h21
 refine zk (zx (zS (zS (zD (blk b6 (.cells m.cells 82 (0, 0)) :: H) [(0, true), (2, true), (3, true), (1, false), (4, true)] SB (fun hns0 => ?_)))))
 refine zd hns0 rfl (zm (.slice _ _ _) rfl) rfl (zd hns0 rfl (zf 5 rfl rfl) rfl (zd hns0 rfl (zn rfl rfl) rfl (DL_e rfl rfl (zc (rSum_c (l := b) (by omega)) rfl (fun x25 => ⟨SB, ?_⟩)))))
 refine zd hns0 rfl (Qt_agg_neq rfl rfl (by kernel_rfl)) rfl (DL_nil (zx (zC rfl (fun h28 => ?_) (fun h28 => ?_))))
 ·
  have p28 := cL h28
  refine T2 (zy (zw [] rfl) (zN (zs rfl rfl (Qai rfl rfl (TX (zQ (zr ?_)))))))
  have e : (provE (ls.map BS.l) rs num mk m.abs b) = 11 := by rw [provA, if_neg (by simpa using h21), if_pos (by simpa using h28)]
  rw [e]
  have e0 : (11 : Int) ≠ 0 := by first | decide | assumption
  exact zX SlotV.zero [_, _] Tryz.results46 ⟨⟨_, rfl, res_cellN rfl⟩, rfl, trivial⟩ rfl (fun w hw => St.addPure (SB w hw : St w0 H w) (fun h => absurd h e0))
 have p28 := cL h28
 refine S4 (zy (zn rfl rfl) (zy (zn rfl rfl) (zy (zf 4 rfl rfl) (zy (zl rfl) (zy (zf 5 rfl rfl) (zy (zn rfl rfl) (zy (zf 38 rfl rfl) (zy (zl rfl) ?_))))))))
 refine ze rfl (zc (rDecided_c (num := num) hmk (sa := sa) (sc := sc) (ls := ls) (rt := ⟨ra, rs.length, rq⟩) (ps := m.parts.ls) hkl hps (by omega) (slot := m.slot) (h := m.hash)) rfl (fun x39 => ?_))
 refine zy (zm (.tuple _) rfl) (zy (Qt_extract rfl) (zy (Qt_extract rfl) (Qai rfl rfl (Qai rfl rfl (TX (zS (T2 (Qmi rfl rfl (zy (Qt_neq rfl rfl) (TX (zC rfl (fun h43 => ?_) (fun h43 => ?_))))))))))))
 ·
  have p43 := cL h43
  refine T2 (zy (zw [] rfl) (Qmi rfl rfl (zN (zs rfl rfl (Qai rfl rfl (TX (zQ (zr ?_))))))))
  have e : (provE (ls.map BS.l) rs num mk m.abs b) = (decidD (ls.map BS.l) num mk m.slot m.hash (m.parts.ls.map BS.l)).2 := by rw [provA, if_neg (by simpa using h21), if_neg (by simpa using h28)]
  rw [e]
  have e0 : ((decidD (ls.map BS.l) num mk m.slot m.hash (m.parts.ls.map BS.l)).2 : Int) ≠ 0 := by simpa using h43
  exact zX SlotV.zero [_, _] Tryz.results46 ⟨⟨_, rfl, res_cellN rfl⟩, rfl, trivial⟩ rfl (fun w hw => St.addPure (SB w hw : St w0 H w) (fun h => absurd h e0))
 have p43 := cL h43
 refine S4 (zy (zf 4 rfl rfl) (zy (zl rfl) (zy (zf 5 rfl rfl) (zy (zn rfl rfl) (Qms rfl rfl (zy (zf 38 rfl rfl) (zy (zl rfl) (zy (zw [(0, (.int .i64 _)), (1, (.agg _)), (2, .slice _ _ _), (3, .slice _ _ _)] rfl) ?_))))))))
 refine zN (zs rfl rfl (Qai rfl rfl (TX (zQ ?_))))
 have e : (provE (ls.map BS.l) rs num mk m.abs b) = 0 := by rw [provA, if_neg (by simpa using h21), if_neg (by simpa using h28)]; simpa using h43
 rw [e]
 exact zX (⟨m.slot, m.hash, ⟨ba, bc, b⟩, m.parts⟩ : SlotV) [_, _] Tryz.results46 ⟨⟨_, rfl, res_cellN rfl⟩, rfl, trivial⟩ rfl (fun w hw => St.addPure (SB w hw : St w0 H w) (fun _ => rfl))
end
end Go.Proofs.YtnijomppbgdmnaaGreat
