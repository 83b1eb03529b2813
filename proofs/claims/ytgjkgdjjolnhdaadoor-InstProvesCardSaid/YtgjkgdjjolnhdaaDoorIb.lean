/- Votes of one slot: what a quorum votes for. -/
import Derived.Test.YtgjkgdjjolnhdaaDoorIa
namespace Go.Proofs.YtgjkgdjjolnhdaaDoor
open Go.RowKit Go.Sx
set_option maxRecDepth 100000
set_option linter.unusedSimpArgs false
set_option linter.unusedVariables false
section
variable {κ ν : Type}
theorem split_b (f : Ent κ ν → Bool) : ∀ (L : List (Ent κ ν)) (e : Ent κ ν), (L.map (·.b)).Nodup → e ∈ L → (L.filter f).length = (bif f e then 1 else 0) + ((L.filter fun x => !(x.b == e.b)).filter f).length
 | [], e, _, he => by cases he
 | x :: L, e, hn, he => by
  simp only [List.map_cons, List.nodup_cons] at hn
  rcases List.mem_cons.1 he with rfl | he
  · have h1 : L.filter (fun x => !(x.b == e.b)) = L := List.filter_eq_self.2 fun y hy => by
     have : y.b ≠ e.b := fun h => hn.1 (h ▸ List.mem_map.2 ⟨y, hy, rfl⟩)
     simpa using this
    rw [List.filter_cons (p := fun x : Ent κ ν => !(x.b == e.b))]
    simp only [beq_self_eq_true, Bool.not_true, Bool.false_eq_true, if_false, h1, List.filter_cons]
    cases f e <;> simp [Nat.add_comm]
  · have hne : x.b ≠ e.b := fun h => hn.1 (h ▸ List.mem_map.2 ⟨e, he, rfl⟩)
    have ih := split_b f L e hn.2 he
    rw [List.filter_cons (p := fun x : Ent κ ν => !(x.b == e.b))]
    simp only [show (!(x.b == e.b)) = true from by simpa using hne, if_true, List.filter_cons]
    cases f x
    · simp only [Bool.false_eq_true, if_false]; exact ih
    · simp only [if_true, List.length_cons]; omega
theorem leftB_push (es : List (Ent κ ν)) (seen : Array Nat) (b : Nat) : leftE es (seen.push b) = (leftE es seen).filter fun x => !(x.b == b) := by
 unfold leftE
 rw [List.filter_filter]
 congr 1
 funext x
 simp only [Array.contains_push, Bool.not_or]
 cases seen.contains x.b <;> cases h : (x.b == b) <;> simp_all
theorem leftB_less {es : List (Ent κ ν)} {seen : Array Nat} {e : Ent κ ν} (h : (es.map (·.b)).Nodup) (he : e ∈ leftE es seen) : (leftE es (seen.push e.b)).length < (leftE es seen).length := by
 have hn : ((leftE es seen).map (·.b)).Nodup := by unfold leftE; exact h.sublist (List.filter_sublist.map _)
 have := split_b (fun _ => true) _ e hn he
 rw [leftB_push]
 have e1 : ∀ l : List (Ent κ ν), l.filter (fun _ => true) = l := fun l => List.filter_eq_self.2 (fun _ _ => rfl)
 rw [e1, e1] at this
 simp only [cond_true] at this
 omega
theorem leftB_all (es : List (Ent κ ν)) : leftE es #[] = es := by simp [leftE]
theorem ent_of_b {es : List (Ent κ ν)} (h : (es.map (·.b)).Nodup) {e x : Ent κ ν} (he : e ∈ es) (hx : x ∈ es) (hb : x.b = e.b) : x = e := by
 induction es with
 | nil => cases he
 | cons y es ih =>
  simp only [List.map_cons, List.nodup_cons] at h
  rcases List.mem_cons.1 he with rfl | he
  · rcases List.mem_cons.1 hx with rfl | hx
    · rfl
    · exact absurd (List.mem_map.2 ⟨x, hx, hb⟩) h.1
  · rcases List.mem_cons.1 hx with hx | hx
    · exact absurd (List.mem_map.2 ⟨e, he, by rw [← hb, hx]⟩) h.1
    · exact ih h.2 he hx
theorem left_push_no {es : List (Ent κ ν)} (h : (es.map (·.b)).Nodup) {seen : Array Nat} {e x : Ent κ ν} (he : e ∈ leftE es seen) (hx : x ∈ es) (hn : x ∉ leftE es (seen.push e.b)) : x = e ∨ x ∉ leftE es seen := by
 rw [leftB_push] at hn
 by_cases hb : x.b = e.b
 · exact .inl (ent_of_b h (List.mem_filter.1 he).1 hx hb)
 · exact .inr fun hl => hn (List.mem_filter.2 ⟨hl, by simpa using hb⟩)
theorem getE_mem [DecidableEq κ] {es : List (Ent κ ν)} (h : (es.map (·.k)).Nodup) {e : Ent κ ν} (he : e ∈ es) : getE es e.k = some e.v := by
 induction es with
 | nil => cases he
 | cons y es ih =>
  simp only [List.map_cons, List.nodup_cons] at h
  rcases List.mem_cons.1 he with rfl | he
  · simp [getE]
  · have hne : ¬ e.k = y.k := fun hk => h.1 (hk ▸ List.mem_map.2 ⟨e, he, rfl⟩)
    have := ih h.2 he
    simpa [getE, List.find?_cons, hne] using this
theorem getE_some_mem [DecidableEq κ] {es : List (Ent κ ν)} {k : κ} {v : ν} (h : getE es k = some v) : ∃ e ∈ es, e.k = k ∧ e.v = v := by
 unfold getE at h
 obtain ⟨e, he, rfl⟩ := Option.map_eq_some_iff.1 h
 exact ⟨e, List.mem_of_find?_eq_some he, by have := List.find?_some he; simpa using (of_decide_eq_true this).symm, rfl⟩
end
/-- Does a quorum vote for a digest? -/
def qualI (num : Int) (mk : Nat) (slot : Int) (V : List VD) (t : TalV) : Bool := decide (quorumV num mk ≠ 0 ∧ quorumV num mk ≤ ones16 (mskI num slot V t))
def partI (V : List VD) (kind reg : Int) (i : Nat) : List UInt8 := (getP V ⟨(i : Int), kind, reg⟩).getD []
def listI (num slot : Int) (V : List VD) (t : TalV) : List (List UInt8) := (memK (mskI num slot V t)).map (partI V t.kind t.reg)
/-- What is told of a kind and a regency. -/
def QrI (num : Int) (mk : Nat) (slot : Int) (V : List VD) (kind reg : Int) (y : Option (Vector UInt8 32)) (L : List (List UInt8)) : Prop :=
 match y with
 | none => (∀ h, qualI num mk slot V ⟨kind, reg, h⟩ = false) ∧ L = []
 | some h => qualI num mk slot V ⟨kind, reg, h⟩ = true ∧ L = listI num slot V ⟨kind, reg, h⟩
theorem ones_zero : ones16 0 = 0 := by decide +kernel
theorem qual_none {num slot : Int} {mk : Nat} {V : List VD} {ps : PMI} {c d : Nat} {ts : TMI} (hI : IsI num slot V ps c ts d) {kind reg : Int} (h : ∀ e ∈ ts, ¬ (e.k.kind = kind ∧ e.k.reg = reg ∧ quorumV num mk ≠ 0 ∧ quorumV num mk ≤ ones16 e.v)) : ∀ h, qualI num mk slot V ⟨kind, reg, h⟩ = false := fun hh => by
 rw [qualI, decide_eq_false_iff_not]
 rintro ⟨h0, h1⟩
 have ht := hI.ht ⟨kind, reg, hh⟩
 rw [← ht] at h1
 cases hg : getE ts ⟨kind, reg, hh⟩ with
 | none => rw [hg] at h1; rw [show (none : Option Nat).getD 0 = 0 from rfl, ones_zero] at h1; omega
 | some m =>
  obtain ⟨e, he, hk, hv⟩ := getE_some_mem hg
  rw [hg] at h1
  exact h e he ⟨by rw [hk], by rw [hk], h0, by rw [hv]; exact h1⟩
theorem tal_eta (t : TalV) {kind reg : Int} (h1 : t.kind = kind) (h2 : t.reg = reg) : t = ⟨kind, reg, t.hash⟩ := by subst h1 h2; rfl
theorem partI_of {num slot : Int} {V : List VD} {ps : PMI} {c d : Nat} {ts : TMI} (hI : IsI num slot V ps c ts d) (kind reg : Int) (i : Nat) : ((getE ps ⟨(i : Int), kind, reg⟩).getD ⟨none, 0, []⟩).l = partI V kind reg i := by
 unfold partI
 rw [← hI.hp]
 cases getE ps ⟨(i : Int), kind, reg⟩ <;> rfl
theorem getP_mem {V : List VD} {k : BalV} {l : List UInt8} (h : getP V k = some l) : ∃ v ∈ V, balD v.1 = k ∧ v.2 = l := by
 unfold getP at h
 obtain ⟨v, hv, rfl⟩ := Option.map_eq_some_iff.1 h
 exact ⟨v, List.mem_of_find?_eq_some hv, by have := List.find?_some hv; simpa using (of_decide_eq_true this).symm, rfl⟩
theorem partI_le {V : List VD} {kind reg : Int} {i n : Nat} (h : ∀ v ∈ V, v.2.length ≤ n) : (partI V kind reg i).length ≤ n := by
 unfold partI
 cases hg : getP V ⟨(i : Int), kind, reg⟩ with
 | none => simp
 | some l => obtain ⟨v, hv, -, rfl⟩ := getP_mem hg; exact h v hv
attribute [local irreducible] ones16 memK mskI quorumV partI popB bruijn

set_option maxHeartbeats 1000000 in
theorem quorum_c {w0 : World} {H : List SA} [G : Glob w0] {p r3 r4 r5 c d : Nat} {V : List VD} {ps : PMI} {ts : TMI} {fp : List Nat} {slot : Int} {num : Int} {mk : Nat} {sa : Option Addr} {sc : Nat} {ls : List BS} {rt : Sl} (hI : IsI num slot V ps c ts d) (hmk : mk < 65536) {kind reg : Int} :
 CT Tryd.prog w0 (blk p (.cells (InstV.mk (KeysV.mk ⟨sa, sc, ls⟩ rt) (ViewV.mk num (mk : Int)) slot (some r3) (some r4) (some r5)).cells 91 (0, 0)) :: blk r4 (mapO encB BS.val ps c) :: blk r5 (mapO encT encM ts d) :: eachA fp ((ps : PMI).map (·.v)) :: H) 48 [.pointer (some ⟨p, 0, none⟩), .int .i64 kind, .int .i64 reg] (α := (Option (Vector UInt8 32) × AC) × (List BS × List Nat)) (fun y => .tuple #[.agg (hlist (y.1.1.getD (zeroV 32))).toArray, .slice y.1.2.a y.2.1.length y.1.2.c, .bool y.1.1.isSome]) (fun y => pu (QrI num mk slot V kind reg y.1.1 (y.2.1.map BS.l)) :: row (.slice y.1.2.a (y.2.1).length y.1.2.c) 27 1 ((y.2.1).map BS.val) :: eachA y.2.2 y.2.1 :: blk p (.cells (InstV.mk (KeysV.mk ⟨sa, sc, ls⟩ rt) (ViewV.mk num (mk : Int)) slot (some r3) (some r4) (some r5)).cells 91 (0, 0)) :: blk r4 (mapO encB BS.val ps c) :: blk r5 (mapO encT encM ts d) :: eachA fp ((ps : PMI).map (·.v)) :: H) := by
 refine CT_intro Tryd.func48 rfl Tryd.ntmps48 rfl ?_
 refine T_seq ?_
 refine T_region ?_
 refine TL_e rfl (Ef_allocN (fun b6 => ?_))
 refine TL_q (Qt_assign (.slice _ _ _) rfl) rfl ?_
 refine TL_q (Qt_assign (.bool _) rfl) rfl ?_
 refine TL_nil ?_
 refine X_then ?_
 refine T_seq ?_
 refine T_region ?_
 refine TL_q (Qt_move (.pointer _) rfl) rfl ?_
 refine TL_q (Qt_nilCheck rfl) rfl ?_
 refine TL_q (Qt_fieldAddr 2 rfl rfl) rfl ?_
 refine TL_q (Qt_loadN rfl rfl) rfl ?_
 refine TL_e rfl (Ef_call (quorum_v (num := num) hmk) rfl (fun x19 => ?_))
 refine TL_q (Qt_assign (.int .i64 _) rfl) rfl ?_
 refine TL_nil ?_
 refine X_then ?_
 refine T_seq ?_
 refine T_seq ?_
 refine T_region ?_
 refine TL_q (Qt_move (.pointer _) rfl) rfl ?_
 refine TL_q (Qt_nilCheck rfl) rfl ?_
 refine TL_q (Qt_fieldAddr 7 rfl rfl) rfl ?_
 refine TL_q (Qt_load1 rfl) rfl ?_
 refine TL_e rfl (Ef_range rfl Tryd.underlying89 (fun it24 => ?_))
 refine TL_nil ?_
 refine X_then ?_
 refine T_block ?_
 refine T_loopg (m0 := (leftE ts #[]).length) [7, 8, 10, 11, 12, 14, 25, 26, 27, 28, 29, 30, 31, 32, 33, 34, 35, 36, 37, 38, 39, 40, 41, 42, 43, 44, 45, 46, 47, 48, 49, 50, 51, 52, 53, 54, 55, 56, 57, 58, 59, 60, 61, 62, 63, 64, 65, 66, 67, 68, 69, 70, 71, 72, 73, 74] [] (fun us H' m => ∃ (seen : Array Nat), us = [] ∧ blk it24 (.mapIter (some r5) d seen d) :: blk b6 (.cells (hlist (zeroV 32)).toArray 26 (0, 0)) :: blk p (.cells (InstV.mk (KeysV.mk ⟨sa, sc, ls⟩ rt) (ViewV.mk num (mk : Int)) slot (some r3) (some r4) (some r5)).cells 91 (0, 0)) :: blk r4 (mapO encB BS.val ps c) :: blk r5 (mapO encT encM ts d) :: eachA fp ((ps : PMI).map (·.v)) :: H = H' ∧ m = (leftE ts seen).length ∧ (∀ e ∈ ts, e ∉ leftE ts seen → ¬ (e.k.kind = kind ∧ e.k.reg = reg ∧ quorumV num mk ≠ 0 ∧ quorumV num mk ≤ ones16 e.v))) ⟨#[], rfl, rfl, rfl, fun e he hne => absurd (by rw [leftB_all]; exact he) hne⟩ (Subs.st inferInstance) ?_
 rintro τ0 _ _ m ⟨seen, rfl, rfl, rfl, hnq⟩ _
 refine T_seq ?_
 refine T_region ?_
 refine TL_e rfl (Ef_next rfl hI.gt.lt hI.gt.lt (fun hz25 => ?_) (fun en25 hen25 => ?_))
 ·
  have hall : ∀ e ∈ ts, ¬ (e.k.kind = kind ∧ e.k.reg = reg ∧ quorumV num mk ≠ 0 ∧ quorumV num mk ≤ ones16 e.v) := fun e he => hnq e he (by rw [hz25]; simp)
  refine TL_q (Qt_extract rfl) rfl ?_
  refine TL_nil ?_
  refine X_then ?_
  refine T_seq ?_
  refine T_cond_false rfl rfl ?_
  refine T_exit ?_
  refine X_then_exit ?_
  refine X_loopg_exit ?_
  refine X_block_exit ?_
  refine X_then ?_
  refine T_seq ?_
  refine T_region ?_
  refine TL_q (Qt_build_arr (hlist (zeroV 32)).toArray Tryd.underlying26 rfl rfl rfl) rfl ?_
  refine TL_n (Ef_storeN rfl rfl (?_))
  refine TL_q (Qt_assign (.slice _ _ _) rfl) rfl ?_
  refine TL_q (Qt_assign (.bool _) rfl) rfl ?_
  refine TL_nil ?_
  refine X_then ?_
  refine T_ret ?_
  exact X_ret ((none, (⟨none, 0⟩)), ([], [])) [_, _, _] Tryd.results48 ⟨⟨_, rfl, res_cellN rfl⟩, rfl, rfl, trivial⟩ rfl (fun w hw => ((((Subs.st inferInstance w hw : St w0 (blk p (.cells (InstV.mk (KeysV.mk ⟨sa, sc, ls⟩ rt) (ViewV.mk num (mk : Int)) slot (some r3) (some r4) (some r5)).cells 91 (0, 0)) :: blk r4 (mapO encB BS.val ps c) :: blk r5 (mapO encT encM ts d) :: eachA fp ((ps : PMI).map (·.v)) :: H) w).eachNil).addNil 27 1)).addPure ⟨qual_none hI hall, rfl⟩)
 ·
  have hmem : en25 ∈ ts := (List.mem_filter.1 hen25).1
  refine TL_q (Qt_extract rfl) rfl ?_
  refine TL_nil ?_
  refine X_then ?_
  refine T_seq ?_
  refine T_cond_true rfl rfl ?_
  refine T_skip ?_
  refine X_then ?_
  refine T_block ?_
  refine T_seq ?_
  refine T_region ?_
  refine TL_q (Qt_entry en25 rfl hmem hI.gt.born) rfl ?_
  refine TL_q (Qt_extract rfl) rfl ?_
  refine TL_q (Qt_extract rfl) rfl ?_
  refine TL_e rfl (Ef_allocN (fun b10 => ?_))
  refine TL_n (Ef_storeN rfl rfl (?_))
  refine TL_q (Qt_assign (.int .u16 _) rfl) rfl ?_
  refine TL_nil ?_
  refine X_then ?_
  refine T_seq ?_
  refine T_seq ?_
  refine T_region ?_
  refine TL_q (Qt_fieldAddr 0 rfl rfl) rfl ?_
  refine TL_q (Qt_load1 rfl) rfl ?_
  refine TL_q (Qt_move (.int .i64 _) rfl) rfl ?_
  refine TL_q (Qt_neq rfl rfl) rfl ?_
  refine TL_q (Qt_move (.bool _) rfl) rfl ?_
  refine TL_split 34 rfl (fun h34 => ?_) (fun h34 => ?_)
  ·
   have p34 := h34
   try simp only [decide_eq_true_eq, decide_eq_false_iff_not, Bool.not_eq_true', Bool.not_eq_false', Option.isNone_iff_eq_none, ne_eq, Decidable.not_not, Int.not_lt, Int.not_le] at p34
   refine TL_pass rfl rfl h34 rfl ?_
   refine TL_pass rfl rfl h34 rfl ?_
   refine TL_pass rfl rfl h34 rfl ?_
   refine TL_pass rfl rfl h34 rfl ?_
   refine TL_q (Qt_pick_t (.bool _) rfl h34 rfl) rfl ?_
   refine TL_q (Qt_move (.bool _) rfl) rfl ?_
   refine TL_pass rfl rfl rfl rfl ?_
   refine TL_pass rfl rfl rfl rfl ?_
   refine TL_q (Qt_pick_t (.bool _) rfl rfl rfl) rfl ?_
   refine TL_q (Qt_move (.bool _) rfl) rfl ?_
   refine TL_pass rfl rfl rfl rfl ?_
   have hvm : en25.v = mskI num slot V en25.k := by rw [← hI.ht, getE_mem hI.gt.keys hmem]; rfl
   have hml : en25.v < 65536 := by rw [hvm]; exact hI.lt _
   refine TL_pass rfl rfl rfl rfl ?_
   refine TL_pass rfl rfl rfl rfl ?_
   refine TL_pass rfl rfl rfl rfl ?_
   refine TL_q (Qt_pick_t (.bool _) rfl rfl rfl) rfl ?_
   refine TL_nil ?_
   refine X_then ?_
   refine T_cond_true rfl rfl ?_
   refine T_exit ?_
   refine X_then_exit ?_
   refine X_block_exit ?_
   refine X_loopg _ (by repeat (first | with_reducible exact agree_refl | refine agree_upd rfl ?_ | refine agree_mix rfl ?_ | refine agree_setAll rfl ?_)) (⟨seen.push en25.b, rfl, rfl, rfl, fun e he hne => by
    rcases left_push_no hI.gt.born hen25 he hne with rfl | h0
    · rintro ⟨q1, q2, q3, q4⟩
      first | (simp_all; done) | omega | (simp_all; omega)
    · exact hnq e he h0⟩) (leftB_less hI.gt.born hen25) ((Subs.st inferInstance))
  ·
   have p34 := h34
   try simp only [decide_eq_true_eq, decide_eq_false_iff_not, Bool.not_eq_true', Bool.not_eq_false', Option.isNone_iff_eq_none, ne_eq, Decidable.not_not, Int.not_lt, Int.not_le] at p34
   refine TL_take rfl rfl h34 ?_
   refine TL_q (Qt_fieldAddr 1 rfl rfl) rfl ?_
   refine TL_take rfl rfl h34 ?_
   refine TL_q (Qt_load1 rfl) rfl ?_
   refine TL_take rfl rfl h34 ?_
   refine TL_q (Qt_move (.int .i64 _) rfl) rfl ?_
   refine TL_take rfl rfl h34 ?_
   refine TL_q (Qt_neq rfl rfl) rfl ?_
   refine TL_q (Qt_pick_f (.bool _) rfl h34 rfl) rfl ?_
   refine TL_q (Qt_move (.bool _) rfl) rfl ?_
   refine TL_split 40 rfl (fun h40 => ?_) (fun h40 => ?_)
   ·
    have p40 := h40
    try simp only [decide_eq_true_eq, decide_eq_false_iff_not, Bool.not_eq_true', Bool.not_eq_false', Option.isNone_iff_eq_none, ne_eq, Decidable.not_not, Int.not_lt, Int.not_le] at p40
    refine TL_pass rfl rfl h40 rfl ?_
    refine TL_pass rfl rfl h40 rfl ?_
    refine TL_q (Qt_pick_t (.bool _) rfl h40 rfl) rfl ?_
    refine TL_q (Qt_move (.bool _) rfl) rfl ?_
    refine TL_pass rfl rfl rfl rfl ?_
    have hvm : en25.v = mskI num slot V en25.k := by rw [← hI.ht, getE_mem hI.gt.keys hmem]; rfl
    have hml : en25.v < 65536 := by rw [hvm]; exact hI.lt _
    refine TL_pass rfl rfl rfl rfl ?_
    refine TL_pass rfl rfl rfl rfl ?_
    refine TL_pass rfl rfl rfl rfl ?_
    refine TL_q (Qt_pick_t (.bool _) rfl rfl rfl) rfl ?_
    refine TL_nil ?_
    refine X_then ?_
    refine T_cond_true rfl rfl ?_
    refine T_exit ?_
    refine X_then_exit ?_
    refine X_block_exit ?_
    refine X_loopg _ (by repeat (first | with_reducible exact agree_refl | refine agree_upd rfl ?_ | refine agree_mix rfl ?_ | refine agree_setAll rfl ?_)) (⟨seen.push en25.b, rfl, rfl, rfl, fun e he hne => by
     rcases left_push_no hI.gt.born hen25 he hne with rfl | h0
     · rintro ⟨q1, q2, q3, q4⟩
       first | (simp_all; done) | omega | (simp_all; omega)
     · exact hnq e he h0⟩) (leftB_less hI.gt.born hen25) ((Subs.st inferInstance))
   ·
    have p40 := h40
    try simp only [decide_eq_true_eq, decide_eq_false_iff_not, Bool.not_eq_true', Bool.not_eq_false', Option.isNone_iff_eq_none, ne_eq, Decidable.not_not, Int.not_lt, Int.not_le] at p40
    refine TL_take rfl rfl h40 ?_
    refine TL_q (Qt_move (.int .i64 _) rfl) rfl ?_
    refine TL_take rfl rfl h40 ?_
    refine TL_q (Qt_eql rfl rfl) rfl ?_
    refine TL_q (Qt_pick_f (.bool _) rfl h40 rfl) rfl ?_
    refine TL_q (Qt_move (.bool _) rfl) rfl ?_
    refine TL_split 44 rfl (fun h44 => ?_) (fun h44 => ?_)
    ·
     have p44 := h44
     try simp only [decide_eq_true_eq, decide_eq_false_iff_not, Bool.not_eq_true', Bool.not_eq_false', Option.isNone_iff_eq_none, ne_eq, Decidable.not_not, Int.not_lt, Int.not_le] at p44
     refine TL_pass rfl rfl h44 rfl ?_
     have hvm : en25.v = mskI num slot V en25.k := by rw [← hI.ht, getE_mem hI.gt.keys hmem]; rfl
     have hml : en25.v < 65536 := by rw [hvm]; exact hI.lt _
     refine TL_pass rfl rfl h44 rfl ?_
     refine TL_pass rfl rfl h44 rfl ?_
     refine TL_pass rfl rfl h44 rfl ?_
     refine TL_q (Qt_pick_t (.bool _) rfl h44 rfl) rfl ?_
     refine TL_nil ?_
     refine X_then ?_
     refine T_cond_true rfl rfl ?_
     refine T_exit ?_
     refine X_then_exit ?_
     refine X_block_exit ?_
     refine X_loopg _ (by repeat (first | with_reducible exact agree_refl | refine agree_upd rfl ?_ | refine agree_mix rfl ?_ | refine agree_setAll rfl ?_)) (⟨seen.push en25.b, rfl, rfl, rfl, fun e he hne => by
      rcases left_push_no hI.gt.born hen25 he hne with rfl | h0
      · rintro ⟨q1, q2, q3, q4⟩
        first | (simp_all; done) | omega | (simp_all; omega)
      · exact hnq e he h0⟩) (leftB_less hI.gt.born hen25) ((Subs.st inferInstance))
    ·
     have p44 := h44
     try simp only [decide_eq_true_eq, decide_eq_false_iff_not, Bool.not_eq_true', Bool.not_eq_false', Option.isNone_iff_eq_none, ne_eq, Decidable.not_not, Int.not_lt, Int.not_le] at p44
     refine TL_take rfl rfl h44 ?_
     refine TL_q (Qt_move (.int .u16 _) rfl) rfl ?_
     have hvm : en25.v = mskI num slot V en25.k := by rw [← hI.ht, getE_mem hI.gt.keys hmem]; rfl
     have hml : en25.v < 65536 := by rw [hvm]; exact hI.lt _
     refine TL_take rfl rfl h44 ?_
     refine TL_e rfl (Ef_call (ones_c hml) rfl (fun x46 => ?_))
     refine TL_take rfl rfl h44 ?_
     refine TL_q (Qt_move (.int .i64 _) rfl) rfl ?_
     refine TL_take rfl rfl h44 ?_
     refine TL_q (Qt_lss rfl rfl) rfl ?_
     refine TL_q (Qt_pick_f (.bool _) rfl h44 rfl) rfl ?_
     refine TL_nil ?_
     refine X_then ?_
     refine T_cond rfl (fun h49 => ?_) (fun h49 => ?_)
     ·
      have p49 := h49
      try simp only [decide_eq_true_eq, decide_eq_false_iff_not, Bool.not_eq_true', Bool.not_eq_false', Option.isNone_iff_eq_none, ne_eq, Decidable.not_not, Int.not_lt, Int.not_le] at p49
      refine T_exit ?_
      refine X_then_exit ?_
      refine X_block_exit ?_
      refine X_loopg _ (by repeat (first | with_reducible exact agree_refl | refine agree_upd rfl ?_ | refine agree_mix rfl ?_ | refine agree_setAll rfl ?_)) (⟨seen.push en25.b, rfl, rfl, rfl, fun e he hne => by
       rcases left_push_no hI.gt.born hen25 he hne with rfl | h0
       · rintro ⟨q1, q2, q3, q4⟩
         first | (simp_all; done) | omega | (simp_all; omega)
       · exact hnq e he h0⟩) (leftB_less hI.gt.born hen25) ((Subs.st inferInstance))
     ·
      have p49 := h49
      try simp only [decide_eq_true_eq, decide_eq_false_iff_not, Bool.not_eq_true', Bool.not_eq_false', Option.isNone_iff_eq_none, ne_eq, Decidable.not_not, Int.not_lt, Int.not_le] at p49
      have hkd : en25.k.kind = kind := by simp_all
      have hrg : en25.k.reg = reg := by simp_all
      have hq0 : quorumV num mk ≠ 0 := by first | (simp_all; done) | omega | (simp_all; omega)
      have hqm : quorumV num mk ≤ ones16 en25.v := by first | (simp_all; done) | omega | (simp_all; omega)
      have hvm : en25.v = mskI num slot V en25.k := by rw [← hI.ht, getE_mem hI.gt.keys hmem]; rfl
      have hml : en25.v < 65536 := by rw [hvm]; exact hI.lt _
      refine T_skip ?_
      refine X_then ?_
      refine T_seq ?_
      refine T_region ?_
      refine TL_q (Qt_assign (.slice _ _ _) rfl) rfl ?_
      refine TL_nil ?_
      refine X_then ?_
      refine T_seq ?_
      refine T_seq ?_
      refine T_region ?_
      refine TL_q (Qt_move (.int .u16 _) rfl) rfl ?_
      refine TL_q (Qt_build [(1, (.int .u16 _))] rfl (by kernel_rfl)) rfl ?_
      refine TL_e rfl (Ef_call (members_v (num := 0) hml) rfl (fun x52 => ?_))
      obtain ⟨mm, hmm⟩ : ∃ mm, mm = (memK en25.v) := ⟨_, rfl⟩
      rw [← hmm]
      have hmml : mm.length ≤ 16 := hmm ▸ memK_len _
      refine TL_q (Qt_len_slice rfl Tryd.underlying42) rfl ?_
      refine TL_q (Qt_move (.int .i64 _) rfl) rfl ?_
      refine TL_nil ?_
      refine X_then ?_
      refine T_block ?_
      refine T_loop [12, 14, 54, 55, 56, 57, 58, 59, 60, 61, 62, 63, 64, 65, 66, 67, 68, 69, 70, 71] [54, 12] (fun us H' => ∃ (k : Nat) (a2 : Option Addr) (c2 : Nat) (os : List BS) (fo : List Nat), us = [.int .i64 (k : Int), .slice a2 os.length c2] ∧ row (.slice a2 (os).length c2) 27 1 ((os).map BS.val) :: eachA fo os :: row (.slice x52.a mm.length x52.c) 3 1 (mm.flatMap encN) :: blk b10 (.cells en25.k.cells 97 (0, 0)) :: blk b6 (.cells (hlist (zeroV 32)).toArray 26 (0, 0)) :: blk p (.cells (InstV.mk (KeysV.mk ⟨sa, sc, ls⟩ rt) (ViewV.mk num (mk : Int)) slot (some r3) (some r4) (some r5)).cells 91 (0, 0)) :: blk r4 (mapO encB BS.val ps c) :: blk r5 (mapO encT encM ts d) :: eachA fp ((ps : PMI).map (·.v)) :: H = H' ∧ k ≤ mm.length ∧ (os.map BS.l = (mm.take k).map (partI V kind reg)) ∧ (os.length = k)) (fun us => match us with | .int _ i :: _ => mm.length - i.toNat | _ => 0) ⟨0, none, 0, [], [], rfl, rfl, by omega, rfl, rfl⟩ (fun w hw => by
       have h0 : St w0 (row (.slice x52.a mm.length x52.c) 3 1 (mm.flatMap encN) :: blk b10 (.cells en25.k.cells 97 (0, 0)) :: blk b6 (.cells (hlist (zeroV 32)).toArray 26 (0, 0)) :: blk p (.cells (InstV.mk (KeysV.mk ⟨sa, sc, ls⟩ rt) (ViewV.mk num (mk : Int)) slot (some r3) (some r4) (some r5)).cells 91 (0, 0)) :: blk r4 (mapO encB BS.val ps c) :: blk r5 (mapO encT encM ts d) :: eachA fp ((ps : PMI).map (·.v)) :: H) w := Subs.st inferInstance w hw
       exact (h0.eachNil).addNil 27 1) ?_
      rintro τ1 _ _  ⟨k, a2, c2, os, fo, rfl, rfl, hk0, hos, hol⟩ _
      refine T_seq ?_
      refine T_region ?_
      refine TL_q (Qt_lss rfl rfl) rfl ?_
      refine TL_nil ?_
      refine X_then ?_
      refine T_seq ?_
      refine T_cond rfl (fun h55 => ?_) (fun h55 => ?_)
      ·
       have p55 := h55
       try simp only [decide_eq_true_eq, decide_eq_false_iff_not, Bool.not_eq_true', Bool.not_eq_false', Option.isNone_iff_eq_none, ne_eq, Decidable.not_not, Int.not_lt, Int.not_le] at p55
       have hk : k < mm.length := by omega
       refine T_skip ?_
       refine X_then ?_
       refine T_seq ?_
       refine T_block ?_
       refine T_seq ?_
       refine T_region ?_
       refine TL_q (Qt_indexR rfl rfl (by omega) (by rw [encN_len]; omega)) rfl ?_
       refine TL_q (Qt_loadR (.int .i64 (mm[k] : Int)) rfl (encN_get _ k hk)) rfl ?_
       refine TL_q (Qt_assign (.int .i64 _) rfl) rfl ?_
       refine TL_nil ?_
       refine X_then ?_
       refine T_region ?_
       refine TL_q (Qt_move (.slice _ _ _) rfl) rfl ?_
       refine TL_q (Qt_move (.pointer _) rfl) rfl ?_
       refine TL_q (Qt_nilCheck rfl) rfl ?_
       refine TL_q (Qt_fieldAddr 6 rfl rfl) rfl ?_
       refine TL_q (Qt_load1 rfl) rfl ?_
       refine TL_q (Qt_move (.int .i64 _) rfl) rfl ?_
       refine TL_q (Qt_move (.int .i64 _) rfl) rfl ?_
       refine TL_q (Qt_move (.int .i64 _) rfl) rfl ?_
       refine TL_q (Qt_build [(0, (.int .i64 _)), (1, (.int .i64 _)), (2, (.int .i64 _))] rfl (by kernel_rfl)) rfl ?_
       refine TL_q (Qt_lookup1 (key := (BalV.mk (mm[k] : Int) kind reg)) (enc := encB) (ev := BS.val) (⟨none, 0, []⟩) rfl rfl Tryd.underlying88 ((inferInstance : TyZ Tryd.prog 27 (.slice none 0 0)).ok)) rfl ?_
       obtain ⟨bb, hbb⟩ : ∃ bb, bb = (getE ps ⟨(mm[k] : Int), kind, reg⟩).getD ⟨none, 0, []⟩ := ⟨_, rfl⟩
       rw [← hbb]
       have hbp := partI_of hI kind reg mm[k]
       rw [← hbb] at hbp
       have hbl : bb.l.length ≤ 4294960000 := by rw [hbp]; exact partI_le (fun v hv => (hI.bnd v hv).2.2)
       have : RdB w0 (eachA fp (ps.map (·.v)) :: H) (.slice bb.a bb.l.length bb.c) bb.l := by
        rw [hbb]
        cases hg : getE ps ⟨(mm[k] : Int), kind, reg⟩ with
        | none => exact RdB.nil'
        | some x =>
         obtain ⟨e, he, -, rfl⟩ := getE_some_mem hg
         exact (RdE.own (w0 := w0) (H := H) (fp := fp) (ls := ps.map (·.v))).get (List.mem_map.2 ⟨e, he, rfl⟩)
       refine TL_e rfl (Ef_call (clone_c (by omega)) rfl (fun x68 => ?_))
       refine TL_e rfl (Ef_slice1 (v := .slice _ _ _) rfl (fun a69 c69 => ?_))
       refine TL_e rfl (Ef_appendP (sv := .slice _ _ _) (xv := .slice _ _ _) ⟨x68.a, x68.c, bb.l⟩ rfl rfl (by omega) rfl (fun a70 c70 => ?_))
       refine TL_q (Qt_assign (.slice _ _ _) rfl) rfl ?_
       refine TL_nil ?_
       refine X_block ?_
       refine X_then ?_
       refine T_region ?_
       first
        | refine TL_q (Qt_add rfl rfl (by omega) (by omega)) rfl ?_
        | refine TL_q (Qt_addw rfl rfl) rfl ?_
       refine TL_q (Qt_move (.int .i64 _) rfl) rfl ?_
       refine TL_nil ?_
       apply X_loop
       case ha => exact (by repeat (first | with_reducible exact agree_refl | refine agree_upd rfl ?_ | refine agree_mix rfl ?_ | refine agree_setAll rfl ?_))
       case hI => exact ⟨k + 1, a70, c70, os ++ [⟨x68.a, x68.c, bb.l⟩], rowFp (.slice x68.a bb.l.length x68.c) ++ fo, rfl, rfl, by omega, by rw [List.map_append, hos, take_get _ _ hk, List.map_append]; simp [hbp], by simp [hol]⟩
       case hm => exact by show mm.length - (k + 1 : Int).toNat < mm.length - (k : Int).toNat; omega
       case hH => exact fun w hw => eachUnder (Subs.st inferInstance w hw : St w0 (row (.slice a70 (os ++ [(⟨x68.a, x68.c, bb.l⟩ : BS)]).length c70) 27 1 ((os ++ [(⟨x68.a, x68.c, bb.l⟩ : BS)]).map BS.val) :: row (BS.val ⟨x68.a, x68.c, bb.l⟩) 5 1 (bytesV (BS.l ⟨x68.a, x68.c, bb.l⟩)) :: eachA fo os :: row (.slice x52.a mm.length x52.c) 3 1 (mm.flatMap encN) :: blk b10 (.cells en25.k.cells 97 (0, 0)) :: blk b6 (.cells (hlist (zeroV 32)).toArray 26 (0, 0)) :: blk p (.cells (InstV.mk (KeysV.mk ⟨sa, sc, ls⟩ rt) (ViewV.mk num (mk : Int)) slot (some r3) (some r4) (some r5)).cells 91 (0, 0)) :: blk r4 (mapO encB BS.val ps c) :: blk r5 (mapO encT encM ts d) :: eachA fp ((ps : PMI).map (·.v)) :: H) w)
      ·
       have p55 := h55
       try simp only [decide_eq_true_eq, decide_eq_false_iff_not, Bool.not_eq_true', Bool.not_eq_false', Option.isNone_iff_eq_none, ne_eq, Decidable.not_not, Int.not_lt, Int.not_le] at p55
       have hos2 : os.map BS.l = mm.map (partI V kind reg) := by rw [hos, List.take_of_length_le (by omega)]
       refine T_exit ?_
       refine X_then_exit ?_
       refine X_loop_exit ?_
       refine X_block_exit ?_
       refine X_then ?_
       refine T_seq ?_
       refine T_region ?_
       refine TL_q (Qt_fieldAddr 2 rfl rfl) rfl ?_
       refine TL_q (Qt_loadN rfl rfl) rfl ?_
       refine TL_q (Qt_move (.slice _ _ _) rfl) rfl ?_
       refine TL_n (Ef_storeN rfl rfl (?_))
       refine TL_q (Qt_assign (.slice _ _ _) rfl) rfl ?_
       refine TL_q (Qt_assign (.bool _) rfl) rfl ?_
       refine TL_nil ?_
       refine X_then ?_
       refine T_ret ?_
       refine X_block_ret ?_
       refine X_loopg_ret ?_
       refine X_block_ret ?_
       refine X_then_ret ?_
       exact X_ret ((some en25.k.hash, (⟨a2, c2⟩)), (os, fo)) [_, _, _] Tryd.results48 ⟨⟨_, rfl, res_cellN rfl⟩, rfl, rfl, trivial⟩ rfl (fun w hw => (Subs.st inferInstance w hw : St w0 (row (.slice a2 (os).length c2) 27 1 ((os).map BS.val) :: eachA fo os :: blk p (.cells (InstV.mk (KeysV.mk ⟨sa, sc, ls⟩ rt) (ViewV.mk num (mk : Int)) slot (some r3) (some r4) (some r5)).cells 91 (0, 0)) :: blk r4 (mapO encB BS.val ps c) :: blk r5 (mapO encT encM ts d) :: eachA fp ((ps : PMI).map (·.v)) :: H) w).addPure ⟨by rw [← tal_eta en25.k hkd hrg, qualI, ← hvm]; exact decide_eq_true ⟨hq0, hqm⟩, by rw [hos2, listI, ← tal_eta en25.k hkd hrg, ← hvm, hmm, hkd, hrg]⟩)
set_option maxHeartbeats 1000000 in
theorem iwritten_c {w0 : World} {H : List SA} [G : Glob w0] {p r3 r4 r5 c d : Nat} {V : List VD} {ps : PMI} {ts : TMI} {fp : List Nat} {slot : Int} {num : Int} {mk : Nat} {sa : Option Addr} {sc : Nat} {ls : List BS} {rt : Sl} (hI : IsI num slot V ps c ts d) (hmk : mk < 65536) {reg : Int} :
 CT Tryd.prog w0 (blk p (.cells (InstV.mk (KeysV.mk ⟨sa, sc, ls⟩ rt) (ViewV.mk num (mk : Int)) slot (some r3) (some r4) (some r5)).cells 91 (0, 0)) :: blk r4 (mapO encB BS.val ps c) :: blk r5 (mapO encT encM ts d) :: eachA fp ((ps : PMI).map (·.v)) :: H) 28 [.pointer (some ⟨p, 0, none⟩), .int .i64 reg] (α := (Option (Vector UInt8 32) × AC) × (List BS × List Nat)) (fun y => .tuple #[.agg (hlist (y.1.1.getD (zeroV 32))).toArray, .slice y.1.2.a y.2.1.length y.1.2.c, .bool y.1.1.isSome]) (fun y => pu (QrI num mk slot V 2 reg y.1.1 (y.2.1.map BS.l)) :: row (.slice y.1.2.a (y.2.1).length y.1.2.c) 27 1 ((y.2.1).map BS.val) :: eachA y.2.2 y.2.1 :: blk p (.cells (InstV.mk (KeysV.mk ⟨sa, sc, ls⟩ rt) (ViewV.mk num (mk : Int)) slot (some r3) (some r4) (some r5)).cells 91 (0, 0)) :: blk r4 (mapO encB BS.val ps c) :: blk r5 (mapO encT encM ts d) :: eachA fp ((ps : PMI).map (·.v)) :: H) := by
 refine CT_intro Tryd.func28 rfl Tryd.ntmps28 rfl ?_
 refine T_seq ?_
 refine T_region ?_
 refine TL_e rfl (Ef_allocN (fun b4 => ?_))
 refine TL_q (Qt_assign (.slice _ _ _) rfl) rfl ?_
 refine TL_q (Qt_assign (.bool _) rfl) rfl ?_
 refine TL_nil ?_
 refine X_then ?_
 refine T_seq ?_
 refine T_seq ?_
 refine T_region ?_
 refine TL_q (Qt_move (.pointer _) rfl) rfl ?_
 refine TL_q (Qt_ptr_nil rfl rfl Tryd.underlying55) rfl ?_
 refine TL_nil ?_
 refine X_then ?_
 refine T_cond rfl (fun h8 => ?_) (fun h8 => ?_)
 ·
  have p8 := h8
  try simp only [decide_eq_true_eq, decide_eq_false_iff_not, Bool.not_eq_true', Bool.not_eq_false', Option.isNone_iff_eq_none, ne_eq, Decidable.not_not, Int.not_lt, Int.not_le] at p8
  cases h8
 ·
  have p8 := h8
  try simp only [decide_eq_true_eq, decide_eq_false_iff_not, Bool.not_eq_true', Bool.not_eq_false', Option.isNone_iff_eq_none, ne_eq, Decidable.not_not, Int.not_lt, Int.not_le] at p8
  refine T_skip ?_
  refine X_then ?_
  refine T_seq ?_
  refine T_region ?_
  refine TL_q (Qt_move (.pointer _) rfl) rfl ?_
  refine TL_q (Qt_move (.int .i64 _) rfl) rfl ?_
  refine TL_conv (fun w hw => (Subs.st inferInstance w hw : St w0 (blk p (.cells (InstV.mk (KeysV.mk ⟨sa, sc, ls⟩ rt) (ViewV.mk num (mk : Int)) slot (some r3) (some r4) (some r5)).cells 91 (0, 0)) :: blk r4 (mapO encB BS.val ps c) :: blk r5 (mapO encT encM ts d) :: eachA fp ((ps : PMI).map (·.v)) :: blk b4 (.cells (hlist (zeroV 32)).toArray 26 (0, 0)) :: H) w)) ?_
  refine TL_e rfl (Ef_call (quorum_c hI hmk (kind := 2) (reg := reg)) rfl (fun x12 => ?_))
  refine TL_pure (fun h12 => ?_)
  refine TL_q (Qt_extract rfl) rfl ?_
  refine TL_q (Qt_extract rfl) rfl ?_
  refine TL_q (Qt_extract rfl) rfl ?_
  refine TL_n (Ef_storeN rfl rfl (?_))
  refine TL_q (Qt_assign (.slice _ _ _) rfl) rfl ?_
  refine TL_q (Qt_assign (.bool _) rfl) rfl ?_
  refine TL_nil ?_
  refine X_then ?_
  refine T_ret ?_
  exact X_ret x12 [_, _, _] Tryd.results28 ⟨⟨_, rfl, res_cellN rfl⟩, rfl, rfl, trivial⟩ rfl (fun w hw => (Subs.st inferInstance w hw : St w0 (row (.slice x12.1.2.a (x12.2.1).length x12.1.2.c) 27 1 ((x12.2.1).map BS.val) :: eachA x12.2.2 x12.2.1 :: blk p (.cells (InstV.mk (KeysV.mk ⟨sa, sc, ls⟩ rt) (ViewV.mk num (mk : Int)) slot (some r3) (some r4) (some r5)).cells 91 (0, 0)) :: blk r4 (mapO encB BS.val ps c) :: blk r5 (mapO encT encM ts d) :: eachA fp ((ps : PMI).map (·.v)) :: H) w).addPure h12)
set_option maxHeartbeats 1000000 in
theorem iwrittenNil_c {w0 : World} {H : List SA} {reg : Int} :
 CT Tryd.prog w0 (H) 28 [.pointer none, .int .i64 reg] (α := Unit) (fun _ => .tuple #[.agg (hlist (zeroV 32)).toArray, .slice none 0 0, .bool false]) (fun _ => H) := by
 refine CT_intro Tryd.func28 rfl Tryd.ntmps28 rfl ?_
 refine T_seq ?_
 refine T_region ?_
 refine TL_e rfl (Ef_allocN (fun b4 => ?_))
 refine TL_q (Qt_assign (.slice _ _ _) rfl) rfl ?_
 refine TL_q (Qt_assign (.bool _) rfl) rfl ?_
 refine TL_nil ?_
 refine X_then ?_
 refine T_seq ?_
 refine T_seq ?_
 refine T_region ?_
 refine TL_q (Qt_move (.pointer _) rfl) rfl ?_
 refine TL_q (Qt_ptr_nil rfl rfl Tryd.underlying55) rfl ?_
 refine TL_nil ?_
 refine X_then ?_
 refine T_cond rfl (fun h8 => ?_) (fun h8 => ?_)
 ·
  have p8 := h8
  try simp only [decide_eq_true_eq, decide_eq_false_iff_not, Bool.not_eq_true', Bool.not_eq_false', Option.isNone_iff_eq_none, ne_eq, Decidable.not_not, Int.not_lt, Int.not_le] at p8
  refine T_seq ?_
  refine T_region ?_
  refine TL_q (Qt_build_arr (hlist (zeroV 32)).toArray Tryd.underlying26 rfl rfl rfl) rfl ?_
  refine TL_n (Ef_storeN rfl rfl (?_))
  refine TL_q (Qt_assign (.slice _ _ _) rfl) rfl ?_
  refine TL_q (Qt_assign (.bool _) rfl) rfl ?_
  refine TL_nil ?_
  refine X_then ?_
  refine T_ret ?_
  refine X_then_ret ?_
  exact X_ret () [_, _, _] Tryd.results28 ⟨⟨_, rfl, res_cellN rfl⟩, rfl, rfl, trivial⟩ rfl (Subs.st inferInstance)
 ·
  have p8 := h8
  try simp only [decide_eq_true_eq, decide_eq_false_iff_not, Bool.not_eq_true', Bool.not_eq_false', Option.isNone_iff_eq_none, ne_eq, Decidable.not_not, Int.not_lt, Int.not_le] at p8
  cases h8
/-- What is told that a quorum accepted. -/
def AcI (num : Int) (mk : Nat) (slot : Int) (V : List VD) (r : Nat) (y : Option (Vector UInt8 32)) (L : List (List UInt8)) : Prop :=
 (y.isSome = true ∧ r < 41 ∧ QrI num mk slot V 3 (r : Int) y L ∧ ∀ i : Nat, i < r → ∀ h, qualI num mk slot V ⟨3, (i : Int), h⟩ = false) ∨ (y = none ∧ r = 0 ∧ L = [] ∧ ∀ i : Nat, i < 41 → ∀ h, qualI num mk slot V ⟨3, (i : Int), h⟩ = false)
set_option maxHeartbeats 1000000 in
theorem accepted_c {w0 : World} {H : List SA} [G : Glob w0] {p r3 r4 r5 c d : Nat} {V : List VD} {ps : PMI} {ts : TMI} {fp : List Nat} {slot : Int} {num : Int} {mk : Nat} {sa : Option Addr} {sc : Nat} {ls : List BS} {rt : Sl} (hI : IsI num slot V ps c ts d) (hmk : mk < 65536) :
 CT Tryd.prog w0 (blk p (.cells (InstV.mk (KeysV.mk ⟨sa, sc, ls⟩ rt) (ViewV.mk num (mk : Int)) slot (some r3) (some r4) (some r5)).cells 91 (0, 0)) :: blk r4 (mapO encB BS.val ps c) :: blk r5 (mapO encT encM ts d) :: eachA fp ((ps : PMI).map (·.v)) :: H) 30 [.pointer (some ⟨p, 0, none⟩)] (α := Nat × ((Option (Vector UInt8 32) × AC) × (List BS × List Nat))) (fun y => .tuple #[.int .i64 (y.1 : Int), .agg (hlist (y.2.1.1.getD (zeroV 32))).toArray, .slice y.2.1.2.a y.2.2.1.length y.2.1.2.c, .bool y.2.1.1.isSome]) (fun y => pu (AcI num mk slot V y.1 y.2.1.1 (y.2.2.1.map BS.l)) :: row (.slice y.2.1.2.a (y.2.2.1).length y.2.1.2.c) 27 1 ((y.2.2.1).map BS.val) :: eachA y.2.2.2 y.2.2.1 :: blk p (.cells (InstV.mk (KeysV.mk ⟨sa, sc, ls⟩ rt) (ViewV.mk num (mk : Int)) slot (some r3) (some r4) (some r5)).cells 91 (0, 0)) :: blk r4 (mapO encB BS.val ps c) :: blk r5 (mapO encT encM ts d) :: eachA fp ((ps : PMI).map (·.v)) :: H) := by
 refine CT_intro Tryd.func30 rfl Tryd.ntmps30 rfl ?_
 refine T_seq ?_
 refine T_region ?_
 refine TL_q (Qt_assign (.int .i64 _) rfl) rfl ?_
 refine TL_e rfl (Ef_allocN (fun b3 => ?_))
 refine TL_q (Qt_assign (.slice _ _ _) rfl) rfl ?_
 refine TL_q (Qt_assign (.bool _) rfl) rfl ?_
 refine TL_nil ?_
 refine X_then ?_
 refine T_seq ?_
 refine T_seq ?_
 refine T_region ?_
 refine TL_q (Qt_move (.pointer _) rfl) rfl ?_
 refine TL_q (Qt_ptr_nil rfl rfl Tryd.underlying55) rfl ?_
 refine TL_nil ?_
 refine X_then ?_
 refine T_cond rfl (fun h11 => ?_) (fun h11 => ?_)
 ·
  have p11 := h11
  try simp only [decide_eq_true_eq, decide_eq_false_iff_not, Bool.not_eq_true', Bool.not_eq_false', Option.isNone_iff_eq_none, ne_eq, Decidable.not_not, Int.not_lt, Int.not_le] at p11
  cases h11
 ·
  have p11 := h11
  try simp only [decide_eq_true_eq, decide_eq_false_iff_not, Bool.not_eq_true', Bool.not_eq_false', Option.isNone_iff_eq_none, ne_eq, Decidable.not_not, Int.not_lt, Int.not_le] at p11
  refine T_skip ?_
  refine X_then ?_
  refine T_seq ?_
  refine T_seq ?_
  refine T_region ?_
  refine TL_q (Qt_move (.int .i64 _) rfl) rfl ?_
  refine TL_nil ?_
  refine X_then ?_
  refine T_block ?_
  refine T_loop [2, 4, 5, 6, 7, 8, 9, 13, 14, 15, 16, 17, 18, 19, 20, 21, 22, 23, 24, 25, 26, 27] [13] (fun us H' => ∃ (k : Nat), us = [.int .i64 (k : Int)] ∧ blk b3 (.cells (hlist (zeroV 32)).toArray 26 (0, 0)) :: blk p (.cells (InstV.mk (KeysV.mk ⟨sa, sc, ls⟩ rt) (ViewV.mk num (mk : Int)) slot (some r3) (some r4) (some r5)).cells 91 (0, 0)) :: blk r4 (mapO encB BS.val ps c) :: blk r5 (mapO encT encM ts d) :: eachA fp ((ps : PMI).map (·.v)) :: H = H' ∧ k ≤ 41 ∧ (∀ i : Nat, i < k → ∀ h, qualI num mk slot V ⟨3, (i : Int), h⟩ = false)) (fun us => match us with | .int _ i :: _ => 41 - i.toNat | _ => 0) ⟨0, rfl, rfl, by omega, fun i h => by omega⟩ (Subs.st inferInstance) ?_
  rintro τ0 _ _  ⟨k, rfl, rfl, hk0, hno⟩ _
  refine T_seq ?_
  refine T_region ?_
  refine TL_q (Qt_lss rfl rfl) rfl ?_
  refine TL_nil ?_
  refine X_then ?_
  refine T_seq ?_
  refine T_cond rfl (fun h14 => ?_) (fun h14 => ?_)
  ·
   have p14 := h14
   try simp only [decide_eq_true_eq, decide_eq_false_iff_not, Bool.not_eq_true', Bool.not_eq_false', Option.isNone_iff_eq_none, ne_eq, Decidable.not_not, Int.not_lt, Int.not_le] at p14
   refine T_skip ?_
   refine X_then ?_
   refine T_seq ?_
   refine T_block ?_
   refine T_seq ?_
   refine T_region ?_
   refine TL_q (Qt_move (.int .i64 _) rfl) rfl ?_
   refine TL_q (Qt_assign (.int .i64 _) rfl) rfl ?_
   refine TL_nil ?_
   refine X_then ?_
   refine T_seq ?_
   refine T_region ?_
   refine TL_q (Qt_move (.pointer _) rfl) rfl ?_
   refine TL_q (Qt_move (.int .i64 _) rfl) rfl ?_
   refine TL_conv (fun w hw => (Subs.st inferInstance w hw : St w0 (blk p (.cells (InstV.mk (KeysV.mk ⟨sa, sc, ls⟩ rt) (ViewV.mk num (mk : Int)) slot (some r3) (some r4) (some r5)).cells 91 (0, 0)) :: blk r4 (mapO encB BS.val ps c) :: blk r5 (mapO encT encM ts d) :: eachA fp ((ps : PMI).map (·.v)) :: blk b3 (.cells (hlist (zeroV 32)).toArray 26 (0, 0)) :: H) w)) ?_
   refine TL_e rfl (Ef_call (quorum_c hI hmk (kind := 3) (reg := (k : Int))) rfl (fun x19 => ?_))
   refine TL_pure (fun h19 => ?_)
   refine TL_q (Qt_move (.tuple _) rfl) rfl ?_
   refine TL_q (Qt_extract rfl) rfl ?_
   refine TL_q (Qt_extract rfl) rfl ?_
   refine TL_q (Qt_extract rfl) rfl ?_
   refine TL_e rfl (Ef_allocN (fun b7 => ?_))
   refine TL_n (Ef_storeN rfl rfl (?_))
   refine TL_q (Qt_assign (.slice _ _ _) rfl) rfl ?_
   refine TL_q (Qt_assign (.bool _) rfl) rfl ?_
   refine TL_nil ?_
   refine X_then ?_
   refine T_seq ?_
   refine T_region ?_
   refine TL_q (Qt_move (.bool _) rfl) rfl ?_
   refine TL_nil ?_
   refine X_then ?_
   refine T_cond rfl (fun h23 => ?_) (fun h23 => ?_)
   ·
    have p23 := h23
    try simp only [decide_eq_true_eq, decide_eq_false_iff_not, Bool.not_eq_true', Bool.not_eq_false', Option.isNone_iff_eq_none, ne_eq, Decidable.not_not, Int.not_lt, Int.not_le] at p23
    refine T_seq ?_
    refine T_drawF (blk b7 (.cells (hlist (x19.1.1.getD (zeroV 32))).toArray 26 (0, 0)) :: H) (by kernel_rfl) (Subs.st inferInstance) ?_
    refine DLF_q (i := 0) (by kernel_rfl) rfl (by kernel_rfl) (by kernel_rfl) (Qt_move (.int .i64 _) rfl) rfl ?_
    refine DLF_q (i := 1) (by kernel_rfl) rfl (by kernel_rfl) (by kernel_rfl) (Qt_loadN rfl rfl) rfl ?_
    refine DLF_q (i := 2) (by kernel_rfl) rfl (by kernel_rfl) (by kernel_rfl) (Qt_move (.slice _ _ _) rfl) rfl ?_
    refine DLF_q (i := 3) (by kernel_rfl) rfl (by kernel_rfl) (by kernel_rfl) (Qt_assign (.int .i64 _) rfl) rfl ?_
    refine DLF_1 (i := 4) (by kernel_rfl) ?_
    refine DLS_n rfl (Ef_storeN rfl rfl (⟨(Subs.st inferInstance), ?_⟩))
    refine DLF_q (i := 5) (by kernel_rfl) rfl (by kernel_rfl) (by kernel_rfl) (Qt_assign (.slice _ _ _) rfl) rfl ?_
    refine DLF_q (i := 6) (by kernel_rfl) rfl (by kernel_rfl) (by kernel_rfl) (Qt_assign (.bool _) rfl) rfl ?_
    refine DLF_nil (by kernel_rfl) ?_
    refine X_then ?_
    refine T_ret ?_
    refine X_block_ret ?_
    refine X_then_ret ?_
    refine X_loop_ret ?_
    refine X_block_ret ?_
    refine X_then_ret ?_
    exact X_ret (k, x19) [_, _, _, _] Tryd.results30 ⟨rfl, ⟨_, rfl, res_cellN rfl⟩, rfl, rfl, trivial⟩ (by rw [h23]; rfl) (fun w hw => (Subs.st inferInstance w hw : St w0 (row (.slice x19.1.2.a (x19.2.1).length x19.1.2.c) 27 1 ((x19.2.1).map BS.val) :: eachA x19.2.2 x19.2.1 :: blk p (.cells (InstV.mk (KeysV.mk ⟨sa, sc, ls⟩ rt) (ViewV.mk num (mk : Int)) slot (some r3) (some r4) (some r5)).cells 91 (0, 0)) :: blk r4 (mapO encB BS.val ps c) :: blk r5 (mapO encT encM ts d) :: eachA fp ((ps : PMI).map (·.v)) :: H) w).addPure (.inl ⟨h23, by omega, h19, hno⟩))
   ·
    have p23 := h23
    try simp only [decide_eq_true_eq, decide_eq_false_iff_not, Bool.not_eq_true', Bool.not_eq_false', Option.isNone_iff_eq_none, ne_eq, Decidable.not_not, Int.not_lt, Int.not_le] at p23
    refine T_skip ?_
    refine X_block ?_
    refine X_then ?_
    refine T_region ?_
    first
     | refine TL_q (Qt_add rfl rfl (by omega) (by omega)) rfl ?_
     | refine TL_q (Qt_addw rfl rfl) rfl ?_
    refine TL_q (Qt_move (.int .i64 _) rfl) rfl ?_
    refine TL_nil ?_
    apply X_loop
    case ha => exact (by repeat (first | with_reducible exact agree_refl | refine agree_upd rfl ?_ | refine agree_mix rfl ?_ | refine agree_setAll rfl ?_))
    case hI => exact ⟨k + 1, rfl, rfl, by omega, fun i hi h => by rcases Nat.lt_or_ge i k with h1 | h1; exact hno i h1 h; obtain rfl : i = k := (by omega); have hn : x19.1.1 = none := (by simpa using h23); rw [hn] at h19; exact h19.1 h⟩
    case hm => exact by show 41 - (k + 1 : Int).toNat < 41 - (k : Int).toNat; omega
    case hH => exact (Subs.st inferInstance)
  ·
   have p14 := h14
   try simp only [decide_eq_true_eq, decide_eq_false_iff_not, Bool.not_eq_true', Bool.not_eq_false', Option.isNone_iff_eq_none, ne_eq, Decidable.not_not, Int.not_lt, Int.not_le] at p14
   refine T_exit ?_
   refine X_then_exit ?_
   refine X_loop_exit ?_
   refine X_block_exit ?_
   refine X_then ?_
   refine T_seq ?_
   refine T_region ?_
   refine TL_q (Qt_build_arr (hlist (zeroV 32)).toArray Tryd.underlying26 rfl rfl rfl) rfl ?_
   refine TL_q (Qt_assign (.int .i64 _) rfl) rfl ?_
   refine TL_n (Ef_storeN rfl rfl (?_))
   refine TL_q (Qt_assign (.slice _ _ _) rfl) rfl ?_
   refine TL_q (Qt_assign (.bool _) rfl) rfl ?_
   refine TL_nil ?_
   refine X_then ?_
   refine T_ret ?_
   exact X_ret (0, ((none, ⟨none, 0⟩), ([], []))) [_, _, _, _] Tryd.results30 ⟨rfl, ⟨_, rfl, res_cellN rfl⟩, rfl, rfl, trivial⟩ rfl (fun w hw => ((((Subs.st inferInstance w hw : St w0 (blk p (.cells (InstV.mk (KeysV.mk ⟨sa, sc, ls⟩ rt) (ViewV.mk num (mk : Int)) slot (some r3) (some r4) (some r5)).cells 91 (0, 0)) :: blk r4 (mapO encB BS.val ps c) :: blk r5 (mapO encT encM ts d) :: eachA fp ((ps : PMI).map (·.v)) :: H) w).eachNil).addNil 27 1)).addPure (.inr ⟨rfl, rfl, rfl, fun i h => hno i (by omega)⟩))
set_option maxHeartbeats 1000000 in
theorem acceptedNil_c {w0 : World} {H : List SA}  :
 CT Tryd.prog w0 (H) 30 [.pointer none] (α := Unit) (fun _ => .tuple #[.int .i64 0, .agg (hlist (zeroV 32)).toArray, .slice none 0 0, .bool false]) (fun _ => H) := by
 refine CT_intro Tryd.func30 rfl Tryd.ntmps30 rfl ?_
 refine T_seq ?_
 refine T_region ?_
 refine TL_q (Qt_assign (.int .i64 _) rfl) rfl ?_
 refine TL_e rfl (Ef_allocN (fun b3 => ?_))
 refine TL_q (Qt_assign (.slice _ _ _) rfl) rfl ?_
 refine TL_q (Qt_assign (.bool _) rfl) rfl ?_
 refine TL_nil ?_
 refine X_then ?_
 refine T_seq ?_
 refine T_seq ?_
 refine T_region ?_
 refine TL_q (Qt_move (.pointer _) rfl) rfl ?_
 refine TL_q (Qt_ptr_nil rfl rfl Tryd.underlying55) rfl ?_
 refine TL_nil ?_
 refine X_then ?_
 refine T_cond rfl (fun h11 => ?_) (fun h11 => ?_)
 ·
  have p11 := h11
  try simp only [decide_eq_true_eq, decide_eq_false_iff_not, Bool.not_eq_true', Bool.not_eq_false', Option.isNone_iff_eq_none, ne_eq, Decidable.not_not, Int.not_lt, Int.not_le] at p11
  refine T_seq ?_
  refine T_region ?_
  refine TL_q (Qt_build_arr (hlist (zeroV 32)).toArray Tryd.underlying26 rfl rfl rfl) rfl ?_
  refine TL_q (Qt_assign (.int .i64 _) rfl) rfl ?_
  refine TL_n (Ef_storeN rfl rfl (?_))
  refine TL_q (Qt_assign (.slice _ _ _) rfl) rfl ?_
  refine TL_q (Qt_assign (.bool _) rfl) rfl ?_
  refine TL_nil ?_
  refine X_then ?_
  refine T_ret ?_
  refine X_then_ret ?_
  exact X_ret () [_, _, _, _] Tryd.results30 ⟨rfl, ⟨_, rfl, res_cellN rfl⟩, rfl, rfl, trivial⟩ rfl (Subs.st inferInstance)
 ·
  have p11 := h11
  try simp only [decide_eq_true_eq, decide_eq_false_iff_not, Bool.not_eq_true', Bool.not_eq_false', Option.isNone_iff_eq_none, ne_eq, Decidable.not_not, Int.not_lt, Int.not_le] at p11
  cases h11
set_option maxHeartbeats 1000000 in
theorem batchNil_c {w0 : World} {H : List SA} {h : Vector UInt8 32} :
 CT Tryd.prog w0 (H) 32 [.pointer none, .agg (hlist h).toArray] (α := Unit) (fun _ => .tuple #[.slice none 0 0, .bool false]) (fun _ => H) := by
 refine CT_intro Tryd.func32 rfl Tryd.ntmps32 rfl ?_
 refine T_seq ?_
 refine T_region ?_
 refine TL_e rfl (Ef_boxN rfl (fun b3 => ?_))
 refine TL_q (Qt_assign (.slice _ _ _) rfl) rfl ?_
 refine TL_q (Qt_assign (.bool _) rfl) rfl ?_
 refine TL_nil ?_
 refine X_then ?_
 refine T_seq ?_
 refine T_seq ?_
 refine T_region ?_
 refine TL_q (Qt_move (.pointer _) rfl) rfl ?_
 refine TL_q (Qt_ptr_nil rfl rfl Tryd.underlying55) rfl ?_
 refine TL_nil ?_
 refine X_then ?_
 refine T_cond rfl (fun h9 => ?_) (fun h9 => ?_)
 ·
  have p9 := h9
  try simp only [decide_eq_true_eq, decide_eq_false_iff_not, Bool.not_eq_true', Bool.not_eq_false', Option.isNone_iff_eq_none, ne_eq, Decidable.not_not, Int.not_lt, Int.not_le] at p9
  refine T_seq ?_
  refine T_region ?_
  refine TL_q (Qt_assign (.slice _ _ _) rfl) rfl ?_
  refine TL_q (Qt_assign (.bool _) rfl) rfl ?_
  refine TL_nil ?_
  refine X_then ?_
  refine T_ret ?_
  refine X_then_ret ?_
  exact X_ret () [_, _] Tryd.results32 ⟨rfl, rfl, trivial⟩ rfl (Subs.st inferInstance)
 ·
  have p9 := h9
  try simp only [decide_eq_true_eq, decide_eq_false_iff_not, Bool.not_eq_true', Bool.not_eq_false', Option.isNone_iff_eq_none, ne_eq, Decidable.not_not, Int.not_lt, Int.not_le] at p9
  cases h9
end Go.Proofs.YtgjkgdjjolnhdaaDoor
