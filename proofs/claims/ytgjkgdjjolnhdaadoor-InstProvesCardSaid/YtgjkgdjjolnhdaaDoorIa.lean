/- Votes of one slot: keys of their maps, what is kept of them, what is done with one that comes. -/
import Derived.Test.YtgjkgdjjolnhdaaDoorTj
import Derived.Test.YtgjkgdjjolnhdaaDoorCa
import Derived.Test.YtgjkgdjjolnhdaaDoorSu
namespace Go.Proofs.YtgjkgdjjolnhdaaDoor
open Go.RowKit Go.Sx
set_option maxRecDepth 100000
set_option linter.unusedSimpArgs false
set_option linter.unusedVariables false
theorem BalV.check' (k : BalV) (empty : Bool) (w : World) (d : Nat) : (Instr.checkKey empty (d + 1 + 1) 95 (.agg k.cells)).run Tryd.prog w = .ok () w := by
 rw [Instr.checkKey]
 simp only [Sem.run_bind, run_underlying Tryd.underlying95, Result.andThen_ok]
 simp only [List.forIn_toArray, List.forIn_cons, List.forIn_nil, ne_eq, String.reduceEq, not_false_eq_true, if_true, Sem.run_bind, part1, Result.andThen_ok, Instr.checkKey, run_underlying Tryd.underlying3, Sem.run_pure]
theorem BalV.same' (k : BalV) (d : Nat) : Instr.sameBits (d + 2) (.agg k.cells) (.agg k.cells) = true := by
 simp [Instr.sameBits, BalV.cells, BalV.list]
@[reducible] def encB (k : BalV) : Value := .agg k.cells
@[reducible] def encT (k : TalV) : Value := .agg k.cells
def encM (n : Nat) : Value := .int .u16 (n : Int)
instance keyBal : Key Tryd.prog 95 encB where
 eq x y w := equal_run (x := encB x) (y := encB y) (h := (inferInstance : EqV Tryd.prog 95 (.agg x.cells) (.agg y.cells) _)) w
 now d _ x y := .inl (sameNow_agg d _ _)
 there := by rw [Tryd.underlying95]; rfl
 check k empty w := BalV.check' k empty w 9998
 same k := by
  have h : ∀ n : Nat, n = 9998 + 2 → Instr.sameBits n (encB k) (encB k) = true := fun n hn => by rw [hn]; exact BalV.same' k 9998
  exact h 10000 (by decide)
theorem forIn_run {P : Program} {w : World} (g : Nat → PUnit → Sem (ForInStep PUnit)) : ∀ l : List Nat, (∀ i ∈ l, (g i ⟨⟩).run P w = .ok (.yield ⟨⟩) w) → (forIn l PUnit.unit g : Sem PUnit).run P w = .ok () w
 | [], _ => by simp only [List.forIn_nil, Sem.run_pure]
 | i :: l, h => by
  have h0 : (g i PUnit.unit).run P w = .ok (.yield ⟨⟩) w := h i (List.mem_cons_self ..)
  simp only [List.forIn_cons, Sem.run_bind, h0, Result.andThen_ok]
  exact forIn_run g l (fun j hj => h j (List.mem_cons_of_mem _ hj))
theorem int_check (x : Int) (empty : Bool) (w : World) (d : Nat) : (Instr.checkKey empty (d + 1) 3 (.int .i64 x)).run Tryd.prog w = .ok () w := by
 rw [Instr.checkKey]
 simp only [Sem.run_bind, run_underlying Tryd.underlying3, Result.andThen_ok, Sem.run_pure]
theorem hash_check (h : Vector UInt8 32) (empty : Bool) (w : World) (d : Nat) : (Instr.checkKey empty (d + 1 + 1) 26 (.agg (hlist h).toArray)).run Tryd.prog w = .ok () w := by
 rw [Instr.checkKey]
 simp only [Sem.run_bind, run_underlying Tryd.underlying26, Result.andThen_ok]
 rw [Std.Legacy.Range.forIn_eq_forIn_range']
 refine (congrArg (fun r => Result.andThen r _) (forIn_run _ _ (fun i hi => ?_))).trans (by rw [Result.andThen_ok, Sem.run_pure])
 have hi : i < 32 := by simpa using hi
 have ht : Ty1 Tryd.prog 5 := inferInstance
 obtain ⟨dd, ii, hd1, hd2, hi', hs⟩ := ht.spec
 have hc : CellAt (hlist h).toArray (i * 1) (byteV h[i]) := ⟨by simpa using hlist_get h i hi⟩
 simp only [Sem.run_bind, run_sizeOf_of hi', hs, Result.andThen_ok, part1, Instr.checkKey, run_underlying Tryd.underlying5, byteV, Sem.run_pure]
theorem TalV.check' (k : TalV) (empty : Bool) (w : World) (d : Nat) : (Instr.checkKey empty (d + 1 + 1 + 1) 97 (.agg k.cells)).run Tryd.prog w = .ok () w := by
 rw [Instr.checkKey]
 simp only [Sem.run_bind, run_underlying Tryd.underlying97, Result.andThen_ok]
 simp only [List.forIn_toArray, List.forIn_cons, List.forIn_nil, ne_eq, String.reduceEq, not_false_eq_true, if_true, Sem.run_bind, part1, partN, Result.andThen_ok, int_check, hash_check, Sem.run_pure]
theorem sameBits_ints : ∀ (L : List Value) (n : Nat), (∀ v ∈ L, Instr.sameBits n v v = true) → (L.zip L).all (fun (x, y) => Instr.sameBits n x y) = true
 | [], _, _ => rfl
 | v :: L, n, h => by simp only [List.zip_cons_cons, List.all_cons, h v (List.mem_cons_self ..), Bool.true_and]; exact sameBits_ints L n (fun u hu => h u (List.mem_cons_of_mem _ hu))
theorem TalV.same' (k : TalV) (d : Nat) : Instr.sameBits (d + 2) (.agg k.cells) (.agg k.cells) = true := by
 simp only [Instr.sameBits, beq_self_eq_true, Bool.true_and]
 refine sameBits_ints _ _ (fun v hv => ?_)
 have hv : v ∈ k.list := by simpa [TalV.cells] using hv
 simp only [TalV.list, List.cons_append, List.nil_append, List.mem_cons] at hv
 rcases hv with rfl | rfl | hv
 · simp [Instr.sameBits]
 · simp [Instr.sameBits]
 · have : ∃ u : UInt8, v = byteV u := by
    simp only [hlist, bytesV, List.mem_map] at hv
    obtain ⟨u, -, rfl⟩ := hv; exact ⟨u, rfl⟩
   obtain ⟨u, rfl⟩ := this
   simp [Instr.sameBits, byteV]
instance keyTal : Key Tryd.prog 97 encT where
 eq x y w := equal_run (x := encT x) (y := encT y) (h := (inferInstance : EqV Tryd.prog 97 (.agg x.cells) (.agg y.cells) _)) w
 now d _ x y := .inl (sameNow_agg d _ _)
 there := by rw [Tryd.underlying97]; rfl
 check k empty w := by
  have h : ∀ n : Nat, n = 9997 + 3 → (Instr.checkKey empty n 97 (encT k)).run Tryd.prog w = .ok () w := fun n hn => by rw [hn]; exact TalV.check' k empty w 9997
  exact h 10000 (by decide)
 same k := by
  have h : ∀ n : Nat, n = 9998 + 2 → Instr.sameBits n (encT k) (encT k) = true := fun n hn => by rw [hn]; exact TalV.same' k 9998
  exact h 10000 (by decide)
/-- A vote that came: its message, its bytes. -/
abbrev VD := MsgD × List UInt8
abbrev PMI := List (Ent BalV BS)
abbrev TMI := List (Ent TalV Nat)
def balD (m : MsgD) : BalV := ⟨m.frm, m.kind, m.reg⟩
def talD (m : MsgD) : TalV := ⟨m.kind, m.reg, m.hash⟩
def getP (V : List VD) (k : BalV) : Option (List UInt8) := (V.find? fun v => decide (k = balD v.1)).map (·.2)
def mskI (num slot : Int) (V : List VD) (t : TalV) : Nat := setD num (wMsg t.kind num t.reg slot t.hash) (V.map (·.1))
def takeI (K : List (List UInt8)) (num : Int) (mk : Nat) (slot : Int) (V : List VD) (l : List UInt8) : Int × List VD :=
 if (openOfK K mk l).1 ≠ 0 then ((openOfK K mk l).1, V) else if (openOfK K mk l).2.kind ≠ 2 ∧ (openOfK K mk l).2.kind ≠ 3 then (15, V)
 else if (openOfK K mk l).2.view ≠ num then (9, V) else if (openOfK K mk l).2.slot ≠ slot then (8, V)
 else if (getP V (balD (openOfK K mk l).2)).isSome = true then (7, V) else (0, V ++ [((openOfK K mk l).2, l)])
/-- What the maps hold of the votes. -/
structure IsI (num slot : Int) (V : List VD) (ps : PMI) (c : Nat) (ts : TMI) (d : Nat) : Prop where
 gp : GoodM ps c
 gt : GoodM ts d
 hp : ∀ k, (getE ps k).map BS.l = getP V k
 ht : ∀ t, (getE ts t).getD 0 = mskI num slot V t
 bnd : ∀ v ∈ V, 0 ≤ v.1.frm ∧ v.1.frm < 16 ∧ v.2.length ≤ 4294960000
theorem IsI.nil (num slot : Int) : IsI num slot [] [] 0 [] 0 := ⟨GoodM.nil, GoodM.nil, fun _ => rfl, fun _ => rfl, fun _ h => by cases h⟩
theorem IsI.has {num slot : Int} {V : List VD} {ps : PMI} {c d : Nat} {ts : TMI} (h : IsI num slot V ps c ts d) (k : BalV) : hasE ps k = (getP V k).isSome := by rw [← h.hp, Option.isSome_map]; rfl
theorem IsI.frm {num slot : Int} {V : List VD} {ps : PMI} {c d : Nat} {ts : TMI} (h : IsI num slot V ps c ts d) : ∀ v ∈ V.map (·.1), 0 ≤ v.frm ∧ v.frm < 16 := fun v hv => by
 obtain ⟨u, hu, rfl⟩ := List.mem_map.1 hv
 exact ⟨(h.bnd u hu).1, (h.bnd u hu).2.1⟩
theorem IsI.lt {num slot : Int} {V : List VD} {ps : PMI} {c d : Nat} {ts : TMI} (h : IsI num slot V ps c ts d) (t : TalV) : mskI num slot V t < 65536 := setD_lt _ h.frm
theorem getP_snoc (V : List VD) (v : VD) (k : BalV) : getP (V ++ [v]) k = if (getP V k).isSome = true then getP V k else if k = balD v.1 then some v.2 else none := by
 unfold getP
 rw [List.find?_append]
 cases hf : V.find? (fun v => decide (k = balD v.1)) with
 | some u => simp
 | none => by_cases he : k = balD v.1 <;> simp [he]
theorem mskI_snoc (num slot : Int) (V : List VD) (o : MsgD) (l : List UInt8) (t : TalV) (hk : o.kind ≠ 0) (hv : o.view = num) (hs : o.slot = slot) : mskI num slot (V ++ [(o, l)]) t = if t = talD o then mskI num slot V t ||| 2 ^ o.frm.toNat else mskI num slot V t := by
 unfold mskI
 rw [List.map_append, List.map_cons, List.map_nil, setD_snoc]
 have e : cntD num (wMsg t.kind num t.reg slot t.hash) o = decide (t = talD o) := by
  rw [Bool.eq_iff_iff, decide_eq_true_eq, TalV.ext_iff']
  simp only [cntD, wMsg, talD, decide_eq_true_eq]
  constructor
  · rintro ⟨h1, -, -, -, h5, -, h7⟩; exact ⟨h1.symm, h5.symm, h7.symm⟩
  · rintro ⟨h1, h2, h3⟩; exact ⟨h1.symm, hk, hv, trivial, h2.symm, hs, h3.symm⟩
 simp only [e, decide_eq_true_eq]
theorem IsI.step {num slot : Int} {V : List VD} {ps : PMI} {c d : Nat} {ts : TMI} (h : IsI num slot V ps c ts d) {o : MsgD} {l : List UInt8} {b : BS} (hb : b.l = l) (hk : o.kind ≠ 0) (hv : o.view = num) (hs : o.slot = slot) (hno : (getP V (balD o)).isSome = false) (hf : 0 ≤ o.frm ∧ o.frm < 16) (hl : l.length ≤ 4294960000) :
 IsI num slot (V ++ [(o, l)]) (putE ps (balD o) b c) (clockE ps (balD o) c) (putE ts (talD o) ((getE ts (talD o)).getD 0 ||| 2 ^ o.frm.toNat) d) (clockE ts (talD o) d) := by
 refine ⟨putE_goodK h.gp _ _, putE_goodK h.gt _ _, fun k => ?_, fun t => ?_, fun v hv => ?_⟩
 · rw [getE_putK, getP_snoc, ← h.hp k]
   by_cases he : k = balD o
   · subst he
     rw [← h.hp, Option.isSome_map] at hno
     rw [if_pos rfl, if_neg (by rw [Option.isSome_map, hno]; decide), if_pos rfl, Option.map_some, hb]
   · rw [if_neg he, if_neg he]
     cases getE ps k <;> simp
 · rw [getE_putK, mskI_snoc num slot V o l t hk hv hs, ← h.ht t]
   by_cases he : t = talD o
   · rw [if_pos he, if_pos he, he]; rfl
   · rw [if_neg he, if_neg he]
 · rcases List.mem_append.1 hv with hv | hv
   · exact h.bnd v hv
   · obtain rfl : v = (o, l) := by simpa using hv
     exact ⟨hf.1, hf.2, hl⟩
/-- Where the maps lie, and what they hold. -/
structure IS where
 ps : PMI
 c : Nat
 ts : TMI
 d : Nat
 fp : List Nat
attribute [local irreducible] openOfK openK getM tagOf popB bruijn

set_option maxHeartbeats 1000000 in
theorem cloneHnil_c {w0 : World} {H : List SA}  :
 CT Tryd.prog w0 (H) 46 [.slice none 0 0] (α := Unit) (fun _ => .slice none 0 0) (fun _ => H) := by
 refine CT_intro Tryd.func46 rfl Tryd.ntmps46 rfl ?_
 refine T_seq ?_
 refine T_region ?_
 refine TL_q (Qt_assign (.slice _ _ _) rfl) rfl ?_
 refine TL_nil ?_
 refine X_then ?_
 refine T_seq ?_
 refine T_seq ?_
 refine T_region ?_
 refine TL_q (Qt_move (.slice _ _ _) rfl) rfl ?_
 refine TL_q (Qt_slice_nil rfl rfl Tryd.underlying36) rfl ?_
 refine TL_nil ?_
 refine X_then ?_
 refine T_cond rfl (fun h4 => ?_) (fun h4 => ?_)
 ·
  have p4 := h4
  try simp only [decide_eq_true_eq, decide_eq_false_iff_not, Bool.not_eq_true', Bool.not_eq_false', Option.isNone_iff_eq_none, ne_eq, Decidable.not_not, Int.not_lt, Int.not_le] at p4
  refine T_seq ?_
  refine T_region ?_
  refine TL_q (Qt_assign (.slice _ _ _) rfl) rfl ?_
  refine TL_nil ?_
  refine X_then ?_
  refine T_ret ?_
  refine X_then_ret ?_
  exact X_ret () [_] Tryd.results46 ⟨rfl, trivial⟩ rfl (Subs.st inferInstance)
 ·
  have p4 := h4
  try simp only [decide_eq_true_eq, decide_eq_false_iff_not, Bool.not_eq_true', Bool.not_eq_false', Option.isNone_iff_eq_none, ne_eq, Decidable.not_not, Int.not_lt, Int.not_le] at p4
  cases h4
set_option maxHeartbeats 1000000 in
theorem take_c {w0 : World} {H : List SA} {p r3 r4 r5 c d : Nat} {V : List VD} {ps : PMI} {ts : TMI} {fp : List Nat} {slot : Int} {num : Int} {mk : Nat} {sa : Option Addr} {sc : Nat} {ls : List BS} {rt : Sl} (hI : IsI num slot V ps c ts d) (hmk : mk < 65536) [rk : RdC w0 H (.slice sa ls.length sc) 1 (ls.map BS.val)] [rke : RdE w0 H ls] (hkl : ∀ x ∈ ls, x.l.length ≤ 4294967000) {a : Option Addr} {l : List UInt8} {lc : Nat} [hr : RdB w0 H (.slice a l.length lc) l] (hl : l.length ≤ 4294960000) :
 CT Tryd.prog w0 (blk p (.cells (InstV.mk (KeysV.mk ⟨sa, sc, ls⟩ rt) (ViewV.mk num (mk : Int)) slot (some r3) (some r4) (some r5)).cells 91 (0, 0)) :: blk r4 (mapO encB BS.val ps c) :: blk r5 (mapO encT encM ts d) :: eachA fp ((ps : PMI).map (·.v)) :: H) 27 [.pointer (some ⟨p, 0, none⟩), .slice a l.length lc] (α := IS) (fun _ => .int .i64 (takeI (ls.map BS.l) num mk slot V l).1) (fun y => pu (IsI num slot (takeI (ls.map BS.l) num mk slot V l).2 y.ps y.c y.ts y.d) :: blk p (.cells (InstV.mk (KeysV.mk ⟨sa, sc, ls⟩ rt) (ViewV.mk num (mk : Int)) slot (some r3) (some r4) (some r5)).cells 91 (0, 0)) :: blk r4 (mapO encB BS.val y.ps y.c) :: blk r5 (mapO encT encM y.ts y.d) :: eachA y.fp ((y.ps : PMI).map (·.v)) :: H) := by
 refine CT_intro Tryd.func27 rfl Tryd.ntmps27 rfl ?_
 refine T_seq ?_
 refine T_region ?_
 refine TL_q (Qt_assign (.int .i64 _) rfl) rfl ?_
 refine TL_nil ?_
 refine X_then ?_
 refine T_seq ?_
 refine T_seq ?_
 refine T_region ?_
 refine TL_q (Qt_move (.pointer _) rfl) rfl ?_
 refine TL_q (Qt_ptr_nil rfl rfl Tryd.underlying55) rfl ?_
 refine TL_nil ?_
 refine X_then ?_
 refine T_cond rfl (fun h11 => ?_) (fun h11 => ?_)
 ·
  have p11 := h11
  try simp only [decide_eq_true_eq, decide_eq_false_iff_not, Bool.not_eq_true', Bool.not_eq_false', Option.isNone_iff_eq_none, ne_eq, Decidable.not_not, Int.not_lt, Int.not_le] at p11
  cases h11
 ·
  have p11 := h11
  try simp only [decide_eq_true_eq, decide_eq_false_iff_not, Bool.not_eq_true', Bool.not_eq_false', Option.isNone_iff_eq_none, ne_eq, Decidable.not_not, Int.not_lt, Int.not_le] at p11
  refine T_skip ?_
  refine X_then ?_
  refine T_seq ?_
  refine T_drawF (blk p (.cells (InstV.mk (KeysV.mk ⟨sa, sc, ls⟩ rt) (ViewV.mk num (mk : Int)) slot (some r3) (some r4) (some r5)).cells 91 (0, 0)) :: H) (by kernel_rfl) (Subs.st inferInstance) ?_
  refine DLF_q (i := 0) (by kernel_rfl) rfl (by kernel_rfl) (by kernel_rfl) (Qt_move (.pointer _) rfl) rfl ?_
  refine DLF_q (i := 1) (by kernel_rfl) rfl (by kernel_rfl) (by kernel_rfl) (Qt_nilCheck rfl) rfl ?_
  refine DLF_q (i := 2) (by kernel_rfl) rfl (by kernel_rfl) (by kernel_rfl) (Qt_fieldAddr 0 rfl rfl) rfl ?_
  refine DLF_q (i := 3) (by kernel_rfl) rfl (by kernel_rfl) (by kernel_rfl) (Qt_loadN rfl rfl) rfl ?_
  refine DLF_q (i := 4) (by kernel_rfl) rfl (by kernel_rfl) (by kernel_rfl) (Qt_move (.pointer _) rfl) rfl ?_
  refine DLF_q (i := 5) (by kernel_rfl) rfl (by kernel_rfl) (by kernel_rfl) (Qt_nilCheck rfl) rfl ?_
  refine DLF_q (i := 6) (by kernel_rfl) rfl (by kernel_rfl) (by kernel_rfl) (Qt_fieldAddr 2 rfl rfl) rfl ?_
  refine DLF_q (i := 7) (by kernel_rfl) rfl (by kernel_rfl) (by kernel_rfl) (Qt_loadN rfl rfl) rfl ?_
  refine DLF_q (i := 8) (by kernel_rfl) rfl (by kernel_rfl) (by kernel_rfl) (Qt_move (.slice _ _ _) rfl) rfl ?_
  refine DLF_2 (i := 9) (j := 13) (by kernel_rfl) ?_ ?_
  ·
   refine DLS_e rfl rfl (Ef_call (openOf_c (sa := sa) (sc := sc) (ls := ls) (rt := rt) (num := num) hmk hkl hl) rfl (fun x22 => ⟨(Subs.st inferInstance), ?_⟩))
   refine DLF_pure (fun hx => ?_)
   have hfr : x22.1.frm = (openOfK (ls.map BS.l) mk l).2.frm := congrArg MsgD.frm hx
   have hkd : x22.1.kind = (openOfK (ls.map BS.l) mk l).2.kind := congrArg MsgD.kind hx
   have hvw : x22.1.view = (openOfK (ls.map BS.l) mk l).2.view := congrArg MsgD.view hx
   have hsl : x22.1.slot = (openOfK (ls.map BS.l) mk l).2.slot := congrArg MsgD.slot hx
   have hf0 : 0 ≤ x22.1.frm ∧ x22.1.frm < 16 := by rw [hfr]; exact opn_frm (ls.map BS.l) mk l
   have hbal : balD (openOfK (ls.map BS.l) mk l).2 = (BalV.mk x22.1.frm x22.1.kind x22.1.reg) := by rw [← hx]; rfl
   refine DLF_q (i := 10) (by kernel_rfl) rfl (by kernel_rfl) (by kernel_rfl) (Qt_move (.tuple _) rfl) rfl ?_
   refine DLF_q (i := 11) (by kernel_rfl) rfl (by kernel_rfl) (by kernel_rfl) (Qt_extract rfl) rfl ?_
   refine DLF_q (i := 12) (by kernel_rfl) rfl (by kernel_rfl) (by kernel_rfl) (Qt_extract rfl) rfl ?_
   refine DLF_1 (i := 13) (by kernel_rfl) ?_
   refine DLS_e rfl rfl (Ef_allocN (fun b5 => ⟨(Subs.st inferInstance), ?_⟩))
   refine DLF_1 (i := 14) (by kernel_rfl) ?_
   refine DLS_n rfl (Ef_storeN rfl rfl (⟨(Subs.st inferInstance), ?_⟩))
   refine DLF_q (i := 15) (by kernel_rfl) rfl (by kernel_rfl) (by kernel_rfl) (Qt_assign (.int .i64 _) rfl) rfl ?_
   refine DLF_nil (by kernel_rfl) ?_
   refine X_then ?_
   refine T_seq ?_
   refine T_region ?_
   refine TL_q (Qt_fieldAddr 1 rfl rfl) rfl ?_
   refine TL_q (Qt_load1 rfl) rfl ?_
   refine TL_q (Qt_fieldAddr 0 rfl rfl) rfl ?_
   refine TL_q (Qt_load1 rfl) rfl ?_
   refine TL_q (Qt_fieldAddr 3 rfl rfl) rfl ?_
   refine TL_q (Qt_load1 rfl) rfl ?_
   refine TL_q (Qt_build [(0, (.int .i64 _)), (1, (.int .i64 _)), (2, (.int .i64 _))] rfl (by kernel_rfl)) rfl ?_
   refine TL_e rfl (Ef_allocN (fun b7 => ?_))
   refine TL_n (Ef_storeN rfl rfl (?_))
   refine TL_nil ?_
   refine X_then ?_
   refine T_seq ?_
   refine T_draw (blk b5 (.cells x22.1.cells 30 (0, 0)) :: blk b7 (.cells (BalV.mk x22.1.frm x22.1.kind x22.1.reg).cells 95 (0, 0)) :: blk p (.cells (InstV.mk (KeysV.mk ⟨sa, sc, ls⟩ rt) (ViewV.mk num (mk : Int)) slot (some r3) (some r4) (some r5)).cells 91 (0, 0)) :: blk r4 (mapO encB BS.val ps c) :: H) [(0, true), (1, true), (2, true), (3, true), (4, true), (5, true), (6, true), (7, true), (8, true), (9, true), (10, true)] (by kernel_rfl) (by kernel_rfl) rfl (by kernel_rfl) (Subs.st inferInstance) (fun hns0 => ?_)
   refine DL_q hns0 rfl (Qt_move (.pointer _) rfl) rfl ?_
   refine DL_q hns0 rfl (Qt_nilCheck rfl) rfl ?_
   refine DL_q hns0 rfl (Qt_fieldAddr 6 rfl rfl) rfl ?_
   refine DL_q hns0 rfl (Qt_load1 rfl) rfl ?_
   refine DL_q hns0 rfl (Qt_loadN rfl rfl) rfl ?_
   refine DL_q hns0 rfl (Qt_lookup2 (key := (BalV.mk x22.1.frm x22.1.kind x22.1.reg)) (enc := encB) (ev := BS.val) (⟨none, 0, []⟩) rfl rfl Tryd.underlying88 ((inferInstance : TyZ Tryd.prog 27 (.slice none 0 0)).ok)) rfl ?_
   refine DL_q hns0 rfl (Qt_move (.tuple _) rfl) rfl ?_
   refine DL_q hns0 rfl (Qt_extract rfl) rfl ?_
   refine DL_q hns0 rfl (Qt_extract rfl) rfl ?_
   refine DL_q hns0 rfl (Qt_assign (.slice _ _ _) rfl) rfl ?_
   refine DL_q hns0 rfl (Qt_assign (.bool _) rfl) rfl ?_
   refine DL_nil ?_
   refine X_then ?_
   refine T_seq ?_
   refine T_block ?_
   refine T_seq ?_
   refine T_region ?_
   refine TL_q (Qt_move (.int .i64 _) rfl) rfl ?_
   refine TL_q (Qt_neq rfl rfl) rfl ?_
   refine TL_q (Qt_assign (.bool _) rfl) rfl ?_
   refine TL_nil ?_
   refine X_then ?_
   refine T_cond rfl (fun h41 => ?_) (fun h41 => ?_)
   ·
    have p41 := h41
    try simp only [decide_eq_true_eq, decide_eq_false_iff_not, Bool.not_eq_true', Bool.not_eq_false', Option.isNone_iff_eq_none, ne_eq, Decidable.not_not, Int.not_lt, Int.not_le] at p41
    refine T_seq ?_
    refine T_region ?_
    refine TL_q (Qt_move (.int .i64 _) rfl) rfl ?_
    refine TL_q (Qt_assign (.int .i64 _) rfl) rfl ?_
    refine TL_nil ?_
    refine X_then ?_
    refine T_ret ?_
    refine X_block_ret ?_
    refine X_then_ret ?_
    have e : (takeI (ls.map BS.l) num mk slot V l) = ((openOfK (ls.map BS.l) mk l).1, V) := by rw [takeI, if_pos (by simpa using h41)]
    exact X_ret (⟨ps, c, ts, d, fp⟩ : IS) [_] Tryd.results27 ⟨rfl, trivial⟩ (by rw [e]; rfl) (fun w hw => (Subs.st inferInstance w hw : St w0 (blk p (.cells (InstV.mk (KeysV.mk ⟨sa, sc, ls⟩ rt) (ViewV.mk num (mk : Int)) slot (some r3) (some r4) (some r5)).cells 91 (0, 0)) :: blk r4 (mapO encB BS.val ps c) :: blk r5 (mapO encT encM ts d) :: eachA fp ((ps : PMI).map (·.v)) :: H) w).addPure (by rw [e]; exact hI))
   ·
    have p41 := h41
    try simp only [decide_eq_true_eq, decide_eq_false_iff_not, Bool.not_eq_true', Bool.not_eq_false', Option.isNone_iff_eq_none, ne_eq, Decidable.not_not, Int.not_lt, Int.not_le] at p41
    have hz : (openOfK (ls.map BS.l) mk l).1 = 0 := by simpa using h41
    refine T_seq ?_
    refine T_region ?_
    refine TL_q (Qt_fieldAddr 0 rfl rfl) rfl ?_
    refine TL_q (Qt_load1 rfl) rfl ?_
    refine TL_q (Qt_neq rfl rfl) rfl ?_
    refine TL_q (Qt_move (.bool _) rfl) rfl ?_
    refine TL_split 49 rfl (fun h49 => ?_) (fun h49 => ?_)
    ·
     have p49 := h49
     try simp only [decide_eq_true_eq, decide_eq_false_iff_not, Bool.not_eq_true', Bool.not_eq_false', Option.isNone_iff_eq_none, ne_eq, Decidable.not_not, Int.not_lt, Int.not_le] at p49
     refine TL_take rfl rfl h49 ?_
     refine TL_q (Qt_fieldAddr 0 rfl rfl) rfl ?_
     refine TL_take rfl rfl h49 ?_
     refine TL_q (Qt_load1 rfl) rfl ?_
     refine TL_take rfl rfl h49 ?_
     refine TL_q (Qt_neq rfl rfl) rfl ?_
     refine TL_q (Qt_pick_t (.bool _) rfl h49 rfl) rfl ?_
     refine TL_q (Qt_assign (.bool _) rfl) rfl ?_
     refine TL_nil ?_
     refine X_then ?_
     refine T_cond rfl (fun h45 => ?_) (fun h45 => ?_)
     ·
      have p45 := h45
      try simp only [decide_eq_true_eq, decide_eq_false_iff_not, Bool.not_eq_true', Bool.not_eq_false', Option.isNone_iff_eq_none, ne_eq, Decidable.not_not, Int.not_lt, Int.not_le] at p45
      refine T_seq ?_
      refine T_region ?_
      refine TL_q (Qt_assign (.int .i64 _) rfl) rfl ?_
      refine TL_nil ?_
      refine X_then ?_
      refine T_ret ?_
      refine X_block_ret ?_
      refine X_then_ret ?_
      have e : (takeI (ls.map BS.l) num mk slot V l) = (15, V) := by rw [takeI, if_neg (by omega), if_pos (by rw [← hkd]; simp_all)]
      exact X_ret (⟨ps, c, ts, d, fp⟩ : IS) [_] Tryd.results27 ⟨rfl, trivial⟩ (by rw [e]; rfl) (fun w hw => (Subs.st inferInstance w hw : St w0 (blk p (.cells (InstV.mk (KeysV.mk ⟨sa, sc, ls⟩ rt) (ViewV.mk num (mk : Int)) slot (some r3) (some r4) (some r5)).cells 91 (0, 0)) :: blk r4 (mapO encB BS.val ps c) :: blk r5 (mapO encT encM ts d) :: eachA fp ((ps : PMI).map (·.v)) :: H) w).addPure (by rw [e]; exact hI))
     ·
      have p45 := h45
      try simp only [decide_eq_true_eq, decide_eq_false_iff_not, Bool.not_eq_true', Bool.not_eq_false', Option.isNone_iff_eq_none, ne_eq, Decidable.not_not, Int.not_lt, Int.not_le] at p45
      have hk4 : (openOfK (ls.map BS.l) mk l).2.kind = 2 ∨ (openOfK (ls.map BS.l) mk l).2.kind = 3 := by rw [← hkd]; first | (simp_all; done) | (simp_all; omega)
      refine T_seq ?_
      refine T_draw (blk b5 (.cells x22.1.cells 30 (0, 0)) :: blk p (.cells (InstV.mk (KeysV.mk ⟨sa, sc, ls⟩ rt) (ViewV.mk num (mk : Int)) slot (some r3) (some r4) (some r5)).cells 91 (0, 0)) :: H) [(0, true), (1, true), (2, true), (3, true), (4, true), (5, true), (6, true), (7, true), (8, true)] (by kernel_rfl) (by kernel_rfl) rfl (by kernel_rfl) (Subs.st inferInstance) (fun hns1 => ?_)
      refine DL_q hns1 rfl (Qt_fieldAddr 2 rfl rfl) rfl ?_
      refine DL_q hns1 rfl (Qt_load1 rfl) rfl ?_
      refine DL_q hns1 rfl (Qt_move (.pointer _) rfl) rfl ?_
      refine DL_q hns1 rfl (Qt_nilCheck rfl) rfl ?_
      refine DL_q hns1 rfl (Qt_fieldAddr 2 rfl rfl) rfl ?_
      refine DL_q hns1 rfl (Qt_fieldAddr 2 rfl rfl) rfl ?_
      refine DL_q hns1 rfl (Qt_load1 rfl) rfl ?_
      refine DL_q hns1 rfl (Qt_neq rfl rfl) rfl ?_
      refine DL_q hns1 rfl (Qt_assign (.bool _) rfl) rfl ?_
      refine DL_nil ?_
      refine X_then ?_
      refine T_cond rfl (fun h54 => ?_) (fun h54 => ?_)
      ·
       have p54 := h54
       try simp only [decide_eq_true_eq, decide_eq_false_iff_not, Bool.not_eq_true', Bool.not_eq_false', Option.isNone_iff_eq_none, ne_eq, Decidable.not_not, Int.not_lt, Int.not_le] at p54
       refine T_seq ?_
       refine T_region ?_
       refine TL_q (Qt_assign (.int .i64 _) rfl) rfl ?_
       refine TL_nil ?_
       refine X_then ?_
       refine T_ret ?_
       refine X_block_ret ?_
       refine X_then_ret ?_
       have e : (takeI (ls.map BS.l) num mk slot V l) = (9, V) := by rw [takeI, if_neg (by omega), if_neg (by omega), if_pos (by rw [← hvw]; simpa using h54)]
       exact X_ret (⟨ps, c, ts, d, fp⟩ : IS) [_] Tryd.results27 ⟨rfl, trivial⟩ (by rw [e]; rfl) (fun w hw => (Subs.st inferInstance w hw : St w0 (blk p (.cells (InstV.mk (KeysV.mk ⟨sa, sc, ls⟩ rt) (ViewV.mk num (mk : Int)) slot (some r3) (some r4) (some r5)).cells 91 (0, 0)) :: blk r4 (mapO encB BS.val ps c) :: blk r5 (mapO encT encM ts d) :: eachA fp ((ps : PMI).map (·.v)) :: H) w).addPure (by rw [e]; exact hI))
      ·
       have p54 := h54
       try simp only [decide_eq_true_eq, decide_eq_false_iff_not, Bool.not_eq_true', Bool.not_eq_false', Option.isNone_iff_eq_none, ne_eq, Decidable.not_not, Int.not_lt, Int.not_le] at p54
       have hvn : (openOfK (ls.map BS.l) mk l).2.view = num := by rw [← hvw]; simpa using h54
       refine T_seq ?_
       refine T_draw (blk b5 (.cells x22.1.cells 30 (0, 0)) :: blk p (.cells (InstV.mk (KeysV.mk ⟨sa, sc, ls⟩ rt) (ViewV.mk num (mk : Int)) slot (some r3) (some r4) (some r5)).cells 91 (0, 0)) :: H) [(0, true), (1, true), (2, true), (3, true), (4, true), (5, true), (6, true), (7, true)] (by kernel_rfl) (by kernel_rfl) rfl (by kernel_rfl) (Subs.st inferInstance) (fun hns2 => ?_)
       refine DL_q hns2 rfl (Qt_fieldAddr 4 rfl rfl) rfl ?_
       refine DL_q hns2 rfl (Qt_load1 rfl) rfl ?_
       refine DL_q hns2 rfl (Qt_move (.pointer _) rfl) rfl ?_
       refine DL_q hns2 rfl (Qt_nilCheck rfl) rfl ?_
       refine DL_q hns2 rfl (Qt_fieldAddr 4 rfl rfl) rfl ?_
       refine DL_q hns2 rfl (Qt_load1 rfl) rfl ?_
       refine DL_q hns2 rfl (Qt_neq rfl rfl) rfl ?_
       refine DL_q hns2 rfl (Qt_assign (.bool _) rfl) rfl ?_
       refine DL_nil ?_
       refine X_then ?_
       refine T_cond rfl (fun h63 => ?_) (fun h63 => ?_)
       ·
        have p63 := h63
        try simp only [decide_eq_true_eq, decide_eq_false_iff_not, Bool.not_eq_true', Bool.not_eq_false', Option.isNone_iff_eq_none, ne_eq, Decidable.not_not, Int.not_lt, Int.not_le] at p63
        refine T_seq ?_
        refine T_region ?_
        refine TL_q (Qt_assign (.int .i64 _) rfl) rfl ?_
        refine TL_nil ?_
        refine X_then ?_
        refine T_ret ?_
        refine X_block_ret ?_
        refine X_then_ret ?_
        have e : (takeI (ls.map BS.l) num mk slot V l) = (8, V) := by rw [takeI, if_neg (by omega), if_neg (by omega), if_neg (by omega), if_pos (by rw [← hsl]; simpa using h63)]
        exact X_ret (⟨ps, c, ts, d, fp⟩ : IS) [_] Tryd.results27 ⟨rfl, trivial⟩ (by rw [e]; rfl) (fun w hw => (Subs.st inferInstance w hw : St w0 (blk p (.cells (InstV.mk (KeysV.mk ⟨sa, sc, ls⟩ rt) (ViewV.mk num (mk : Int)) slot (some r3) (some r4) (some r5)).cells 91 (0, 0)) :: blk r4 (mapO encB BS.val ps c) :: blk r5 (mapO encT encM ts d) :: eachA fp ((ps : PMI).map (·.v)) :: H) w).addPure (by rw [e]; exact hI))
       ·
        have p63 := h63
        try simp only [decide_eq_true_eq, decide_eq_false_iff_not, Bool.not_eq_true', Bool.not_eq_false', Option.isNone_iff_eq_none, ne_eq, Decidable.not_not, Int.not_lt, Int.not_le] at p63
        have hsn : (openOfK (ls.map BS.l) mk l).2.slot = slot := by rw [← hsl]; simpa using h63
        refine T_seq ?_
        refine T_region ?_
        refine TL_q (Qt_move (.bool _) rfl) rfl ?_
        refine TL_q (Qt_assign (.bool _) rfl) rfl ?_
        refine TL_nil ?_
        refine X_then ?_
        refine T_cond rfl (fun h71 => ?_) (fun h71 => ?_)
        ·
         have p71 := h71
         try simp only [decide_eq_true_eq, decide_eq_false_iff_not, Bool.not_eq_true', Bool.not_eq_false', Option.isNone_iff_eq_none, ne_eq, Decidable.not_not, Int.not_lt, Int.not_le] at p71
         refine T_seq ?_
         refine T_region ?_
         refine TL_q (Qt_assign (.int .i64 _) rfl) rfl ?_
         refine TL_nil ?_
         refine X_then ?_
         refine T_ret ?_
         refine X_block_ret ?_
         refine X_then_ret ?_
         have e : (takeI (ls.map BS.l) num mk slot V l) = (7, V) := by rw [takeI, if_neg (by omega), if_neg (by omega), if_neg (by omega), if_neg (by omega), if_pos (by rw [hbal, ← hI.has]; simpa using h71)]
         exact X_ret (⟨ps, c, ts, d, fp⟩ : IS) [_] Tryd.results27 ⟨rfl, trivial⟩ (by rw [e]; rfl) (fun w hw => (Subs.st inferInstance w hw : St w0 (blk p (.cells (InstV.mk (KeysV.mk ⟨sa, sc, ls⟩ rt) (ViewV.mk num (mk : Int)) slot (some r3) (some r4) (some r5)).cells 91 (0, 0)) :: blk r4 (mapO encB BS.val ps c) :: blk r5 (mapO encT encM ts d) :: eachA fp ((ps : PMI).map (·.v)) :: H) w).addPure (by rw [e]; exact hI))
        ·
         have p71 := h71
         try simp only [decide_eq_true_eq, decide_eq_false_iff_not, Bool.not_eq_true', Bool.not_eq_false', Option.isNone_iff_eq_none, ne_eq, Decidable.not_not, Int.not_lt, Int.not_le] at p71
         have hno : hasE ps (BalV.mk x22.1.frm x22.1.kind x22.1.reg) = false := by simpa using h71
         have hnp : (getP V (balD (openOfK (ls.map BS.l) mk l).2)).isSome = false := by rw [hbal, ← hI.has]; exact hno
         refine T_skip ?_
         refine X_block ?_
         refine X_then ?_
         refine T_seq ?_
         refine T_draw (blk b7 (.cells (BalV.mk x22.1.frm x22.1.kind x22.1.reg).cells 95 (0, 0)) :: blk p (.cells (InstV.mk (KeysV.mk ⟨sa, sc, ls⟩ rt) (ViewV.mk num (mk : Int)) slot (some r3) (some r4) (some r5)).cells 91 (0, 0)) :: H) [(0, true), (1, true), (2, true), (3, true), (4, true), (5, true), (6, false), (7, false)] (by kernel_rfl) (by kernel_rfl) rfl (by kernel_rfl) (Subs.st inferInstance) (fun hns3 => ?_)
         refine DL_q hns3 rfl (Qt_move (.pointer _) rfl) rfl ?_
         refine DL_q hns3 rfl (Qt_nilCheck rfl) rfl ?_
         refine DL_q hns3 rfl (Qt_fieldAddr 6 rfl rfl) rfl ?_
         refine DL_q hns3 rfl (Qt_load1 rfl) rfl ?_
         refine DL_q hns3 rfl (Qt_loadN rfl rfl) rfl ?_
         refine DL_q hns3 rfl (Qt_move (.slice _ _ _) rfl) rfl ?_
         refine DL_e rfl rfl (Ef_call (clone_c (by omega)) rfl (fun x79 => ⟨(Subs.st inferInstance), ?_⟩))
         obtain ⟨f, hfe⟩ := Int.eq_ofNat_of_zero_le hf0.1
         have hf16 : f < 16 := by omega
         have h2f : 2 ^ f < 65536 := Nat.pow_lt_pow_right (by decide) hf16
         have hml : (getE ts (TalV.mk x22.1.kind x22.1.reg x22.1.hash)).getD 0 < 65536 := by rw [hI.ht]; exact hI.lt _
         refine DL_n rfl (Ef_mapUpdate (key := (BalV.mk x22.1.frm x22.1.kind x22.1.reg)) (enc := encB) (ev := BS.val) ((BS.mk x79.a x79.c l)) rfl rfl rfl Tryd.underlying88 (⟨(Subs.st inferInstance), ?_⟩))
         refine DL_nil ?_
         refine X_then ?_
         refine T_seq ?_
         refine T_drawF (blk b5 (.cells x22.1.cells 30 (0, 0)) :: blk p (.cells (InstV.mk (KeysV.mk ⟨sa, sc, ls⟩ rt) (ViewV.mk num (mk : Int)) slot (some r3) (some r4) (some r5)).cells 91 (0, 0)) :: H) (by kernel_rfl) (Subs.st inferInstance) ?_
         refine DLF_q (i := 0) (by kernel_rfl) rfl (by kernel_rfl) (by kernel_rfl) (Qt_move (.pointer _) rfl) rfl ?_
         refine DLF_q (i := 1) (by kernel_rfl) rfl (by kernel_rfl) (by kernel_rfl) (Qt_nilCheck rfl) rfl ?_
         refine DLF_q (i := 2) (by kernel_rfl) rfl (by kernel_rfl) (by kernel_rfl) (Qt_fieldAddr 7 rfl rfl) rfl ?_
         refine DLF_q (i := 3) (by kernel_rfl) rfl (by kernel_rfl) (by kernel_rfl) (Qt_load1 rfl) rfl ?_
         refine DLF_q (i := 4) (by kernel_rfl) rfl (by kernel_rfl) (by kernel_rfl) (Qt_fieldAddr 0 rfl rfl) rfl ?_
         refine DLF_q (i := 5) (by kernel_rfl) rfl (by kernel_rfl) (by kernel_rfl) (Qt_load1 rfl) rfl ?_
         refine DLF_q (i := 6) (by kernel_rfl) rfl (by kernel_rfl) (by kernel_rfl) (Qt_fieldAddr 3 rfl rfl) rfl ?_
         refine DLF_q (i := 7) (by kernel_rfl) rfl (by kernel_rfl) (by kernel_rfl) (Qt_load1 rfl) rfl ?_
         refine DLF_q (i := 8) (by kernel_rfl) rfl (by kernel_rfl) (by kernel_rfl) (Qt_fieldAddr 5 rfl rfl) rfl ?_
         refine DLF_q (i := 9) (by kernel_rfl) rfl (by kernel_rfl) (by kernel_rfl) (Qt_loadN rfl rfl) rfl ?_
         refine DLF_q (i := 10) (by kernel_rfl) rfl (by kernel_rfl) (by kernel_rfl) (Qt_build [(0, (.int .i64 _)), (1, (.int .i64 _)), (2, (.agg _))] rfl (by kernel_rfl)) rfl ?_
         refine DLF_q (i := 12) (by kernel_rfl) rfl (by kernel_rfl) (by kernel_rfl) (Qt_fieldAddr 1 rfl rfl) rfl ?_
         refine DLF_q (i := 13) (by kernel_rfl) rfl (by kernel_rfl) (by kernel_rfl) (Qt_load1 rfl) rfl ?_
         refine DLF_q (i := 14) (by kernel_rfl) rfl (by kernel_rfl) (by kernel_rfl) (Qt_val (Qt_shlN (k := .u16) (a := 1) (m := f) rfl (show Value.int .i64 x22.1.frm = Value.int .i64 (f : Int) from by rw [hfe]) (by show f ≤ 16; omega) (by show 1 * 2 ^ f < 2 ^ 16; omega) rfl) (show Value.int .u16 ((1 * 2 ^ f : Nat) : Int) = Value.int .u16 ((2 ^ f : Nat) : Int) from by rw [Nat.one_mul])) rfl ?_
         refine DLF_2 (i := 11) (j := 16) (by kernel_rfl) ?_ ?_
         ·
          refine DLS_e rfl rfl (Ef_of_Qt (Qt_lookup1 (key := (TalV.mk x22.1.kind x22.1.reg x22.1.hash)) (enc := encT) (ev := encM) ((0 : Nat)) rfl rfl Tryd.underlying89 ((inferInstance : TyZ Tryd.prog 22 (.int .u16 0)).ok)) ⟨(Subs.st inferInstance), ?_⟩)
          try simp only [getE_putK, if_true, Option.getD_some]
          refine DLF_q (i := 15) (by kernel_rfl) rfl (by kernel_rfl) (by kernel_rfl) (Qt_orN rfl rfl rfl (by show _ < 2 ^ 16; omega) (by show _ < 2 ^ 16; omega)) rfl ?_
          refine DLF_1 (i := 16) (by kernel_rfl) ?_
          refine DLS_e rfl rfl (Ef_mapEntry (key := (TalV.mk x22.1.kind x22.1.reg x22.1.hash)) (enc := encT) (ev := encM) (0 : Nat) rfl rfl Tryd.underlying89 ((inferInstance : TyZ Tryd.prog 22 (.int .u16 0)).ok) (⟨(Subs.st inferInstance), ?_⟩))
          refine DLF_q (i := 17) (by kernel_rfl) rfl (by kernel_rfl) (by kernel_rfl) (Qt_extract rfl) rfl ?_
          refine DLF_1 (i := 18) (by kernel_rfl) ?_
          refine DLS_n rfl (Ef_entryStore (key := (TalV.mk x22.1.kind x22.1.reg x22.1.hash)) (enc := encT) (ev := encM) ((getE ts (TalV.mk x22.1.kind x22.1.reg x22.1.hash)).getD 0 ||| 2 ^ f) rfl rfl rfl (putE_goodK hI.gt _ _).born (putE_find _ _ _ _) (⟨(Subs.st inferInstance), ?_⟩))
          refine DLF_nil (by kernel_rfl) ?_
          refine X_then ?_
          refine T_seq ?_
          refine T_region ?_
          refine TL_q (Qt_assign (.int .i64 _) rfl) rfl ?_
          refine TL_nil ?_
          refine X_then ?_
          refine T_ret ?_
          have e : (takeI (ls.map BS.l) num mk slot V l) = (0, V ++ [(x22.1.abs, l)]) := by rw [takeI, if_neg (by omega), if_neg (by omega), if_neg (by omega), if_neg (by omega), if_neg (by rw [hnp]; decide), hx]
          rw [putE_putE]
          have hst := hI.step (o := x22.1.abs) (l := l) (b := (BS.mk x79.a x79.c l)) rfl (by show x22.1.kind ≠ 0; omega) (by show x22.1.view = num; omega) (by show x22.1.slot = slot; omega) (by rw [hx]; exact hnp) hf0 hl
          rw [show x22.1.abs.frm.toNat = f from by show x22.1.frm.toNat = f; omega] at hst
          have hm : (putE ps (BalV.mk x22.1.frm x22.1.kind x22.1.reg) (BS.mk x79.a x79.c l) c).map (·.v) = ps.map (·.v) ++ [(BS.mk x79.a x79.c l)] := by rw [putE_none _ _ _ _ hno]; simp
          refine X_ret (⟨putE ps (BalV.mk x22.1.frm x22.1.kind x22.1.reg) (BS.mk x79.a x79.c l) c, clockE ps (BalV.mk x22.1.frm x22.1.kind x22.1.reg) c, putE ts (TalV.mk x22.1.kind x22.1.reg x22.1.hash) ((getE ts (TalV.mk x22.1.kind x22.1.reg x22.1.hash)).getD 0 ||| 2 ^ f) d, clockE ts (TalV.mk x22.1.kind x22.1.reg x22.1.hash) d, rowFp (BS.val (BS.mk x79.a x79.c l)) ++ fp⟩ : IS) [_] Tryd.results27 ⟨rfl, trivial⟩ (by rw [e]; rfl) (fun w hw => ?_)
          have h1 : St w0 (row (BS.val (BS.mk x79.a x79.c l)) 5 1 (bytesV (BS.l (BS.mk x79.a x79.c l))) :: eachA fp (ps.map (·.v)) :: blk p (.cells (InstV.mk (KeysV.mk ⟨sa, sc, ls⟩ rt) (ViewV.mk num (mk : Int)) slot (some r3) (some r4) (some r5)).cells 91 (0, 0)) :: blk r4 (mapO encB BS.val (putE ps (BalV.mk x22.1.frm x22.1.kind x22.1.reg) (BS.mk x79.a x79.c l) c) (clockE ps (BalV.mk x22.1.frm x22.1.kind x22.1.reg) c)) :: blk r5 (mapO encT encM (putE ts (TalV.mk x22.1.kind x22.1.reg x22.1.hash) ((getE ts (TalV.mk x22.1.kind x22.1.reg x22.1.hash)).getD 0 ||| 2 ^ f) d) (clockE ts (TalV.mk x22.1.kind x22.1.reg x22.1.hash) d)) :: H) w := Subs.st inferInstance w hw
          have h2 := h1.eachAdd
          rw [← hm] at h2
          exact (Subs.st inferInstance w h2 : St w0 (blk p (.cells (InstV.mk (KeysV.mk ⟨sa, sc, ls⟩ rt) (ViewV.mk num (mk : Int)) slot (some r3) (some r4) (some r5)).cells 91 (0, 0)) :: blk r4 (mapO encB BS.val (putE ps (BalV.mk x22.1.frm x22.1.kind x22.1.reg) (BS.mk x79.a x79.c l) c) (clockE ps (BalV.mk x22.1.frm x22.1.kind x22.1.reg) c)) :: blk r5 (mapO encT encM (putE ts (TalV.mk x22.1.kind x22.1.reg x22.1.hash) ((getE ts (TalV.mk x22.1.kind x22.1.reg x22.1.hash)).getD 0 ||| 2 ^ f) d) (clockE ts (TalV.mk x22.1.kind x22.1.reg x22.1.hash) d)) :: eachA (rowFp (BS.val (BS.mk x79.a x79.c l)) ++ fp) (((putE ps (BalV.mk x22.1.frm x22.1.kind x22.1.reg) (BS.mk x79.a x79.c l) c) : PMI).map (·.v)) :: H) w).addPure (by rw [e]; exact hst)
         ·
          refine DLS_e rfl rfl (Ef_mapEntry (key := (TalV.mk x22.1.kind x22.1.reg x22.1.hash)) (enc := encT) (ev := encM) (0 : Nat) rfl rfl Tryd.underlying89 ((inferInstance : TyZ Tryd.prog 22 (.int .u16 0)).ok) (⟨(Subs.st inferInstance), ?_⟩))
          refine DLF_q (i := 17) (by kernel_rfl) rfl (by kernel_rfl) (by kernel_rfl) (Qt_extract rfl) rfl ?_
          refine DLF_1 (i := 11) (by kernel_rfl) ?_
          refine DLS_e rfl rfl (Ef_of_Qt (Qt_lookup1 (key := (TalV.mk x22.1.kind x22.1.reg x22.1.hash)) (enc := encT) (ev := encM) ((0 : Nat)) rfl rfl Tryd.underlying89 ((inferInstance : TyZ Tryd.prog 22 (.int .u16 0)).ok)) ⟨(Subs.st inferInstance), ?_⟩)
          try simp only [getE_putK, if_true, Option.getD_some]
          refine DLF_q (i := 15) (by kernel_rfl) rfl (by kernel_rfl) (by kernel_rfl) (Qt_orN rfl rfl rfl (by show _ < 2 ^ 16; omega) (by show _ < 2 ^ 16; omega)) rfl ?_
          refine DLF_1 (i := 18) (by kernel_rfl) ?_
          refine DLS_n rfl (Ef_entryStore (key := (TalV.mk x22.1.kind x22.1.reg x22.1.hash)) (enc := encT) (ev := encM) ((getE ts (TalV.mk x22.1.kind x22.1.reg x22.1.hash)).getD 0 ||| 2 ^ f) rfl rfl rfl (putE_goodK hI.gt _ _).born (putE_find _ _ _ _) (⟨(Subs.st inferInstance), ?_⟩))
          refine DLF_nil (by kernel_rfl) ?_
          refine X_then ?_
          refine T_seq ?_
          refine T_region ?_
          refine TL_q (Qt_assign (.int .i64 _) rfl) rfl ?_
          refine TL_nil ?_
          refine X_then ?_
          refine T_ret ?_
          have e : (takeI (ls.map BS.l) num mk slot V l) = (0, V ++ [(x22.1.abs, l)]) := by rw [takeI, if_neg (by omega), if_neg (by omega), if_neg (by omega), if_neg (by omega), if_neg (by rw [hnp]; decide), hx]
          rw [putE_putE]
          have hst := hI.step (o := x22.1.abs) (l := l) (b := (BS.mk x79.a x79.c l)) rfl (by show x22.1.kind ≠ 0; omega) (by show x22.1.view = num; omega) (by show x22.1.slot = slot; omega) (by rw [hx]; exact hnp) hf0 hl
          rw [show x22.1.abs.frm.toNat = f from by show x22.1.frm.toNat = f; omega] at hst
          have hm : (putE ps (BalV.mk x22.1.frm x22.1.kind x22.1.reg) (BS.mk x79.a x79.c l) c).map (·.v) = ps.map (·.v) ++ [(BS.mk x79.a x79.c l)] := by rw [putE_none _ _ _ _ hno]; simp
          refine X_ret (⟨putE ps (BalV.mk x22.1.frm x22.1.kind x22.1.reg) (BS.mk x79.a x79.c l) c, clockE ps (BalV.mk x22.1.frm x22.1.kind x22.1.reg) c, putE ts (TalV.mk x22.1.kind x22.1.reg x22.1.hash) ((getE ts (TalV.mk x22.1.kind x22.1.reg x22.1.hash)).getD 0 ||| 2 ^ f) d, clockE ts (TalV.mk x22.1.kind x22.1.reg x22.1.hash) d, rowFp (BS.val (BS.mk x79.a x79.c l)) ++ fp⟩ : IS) [_] Tryd.results27 ⟨rfl, trivial⟩ (by rw [e]; rfl) (fun w hw => ?_)
          have h1 : St w0 (row (BS.val (BS.mk x79.a x79.c l)) 5 1 (bytesV (BS.l (BS.mk x79.a x79.c l))) :: eachA fp (ps.map (·.v)) :: blk p (.cells (InstV.mk (KeysV.mk ⟨sa, sc, ls⟩ rt) (ViewV.mk num (mk : Int)) slot (some r3) (some r4) (some r5)).cells 91 (0, 0)) :: blk r4 (mapO encB BS.val (putE ps (BalV.mk x22.1.frm x22.1.kind x22.1.reg) (BS.mk x79.a x79.c l) c) (clockE ps (BalV.mk x22.1.frm x22.1.kind x22.1.reg) c)) :: blk r5 (mapO encT encM (putE ts (TalV.mk x22.1.kind x22.1.reg x22.1.hash) ((getE ts (TalV.mk x22.1.kind x22.1.reg x22.1.hash)).getD 0 ||| 2 ^ f) d) (clockE ts (TalV.mk x22.1.kind x22.1.reg x22.1.hash) d)) :: H) w := Subs.st inferInstance w hw
          have h2 := h1.eachAdd
          rw [← hm] at h2
          exact (Subs.st inferInstance w h2 : St w0 (blk p (.cells (InstV.mk (KeysV.mk ⟨sa, sc, ls⟩ rt) (ViewV.mk num (mk : Int)) slot (some r3) (some r4) (some r5)).cells 91 (0, 0)) :: blk r4 (mapO encB BS.val (putE ps (BalV.mk x22.1.frm x22.1.kind x22.1.reg) (BS.mk x79.a x79.c l) c) (clockE ps (BalV.mk x22.1.frm x22.1.kind x22.1.reg) c)) :: blk r5 (mapO encT encM (putE ts (TalV.mk x22.1.kind x22.1.reg x22.1.hash) ((getE ts (TalV.mk x22.1.kind x22.1.reg x22.1.hash)).getD 0 ||| 2 ^ f) d) (clockE ts (TalV.mk x22.1.kind x22.1.reg x22.1.hash) d)) :: eachA (rowFp (BS.val (BS.mk x79.a x79.c l)) ++ fp) (((putE ps (BalV.mk x22.1.frm x22.1.kind x22.1.reg) (BS.mk x79.a x79.c l) c) : PMI).map (·.v)) :: H) w).addPure (by rw [e]; exact hst)
    ·
     have p49 := h49
     try simp only [decide_eq_true_eq, decide_eq_false_iff_not, Bool.not_eq_true', Bool.not_eq_false', Option.isNone_iff_eq_none, ne_eq, Decidable.not_not, Int.not_lt, Int.not_le] at p49
     refine TL_pass rfl rfl h49 rfl ?_
     refine TL_pass rfl rfl h49 rfl ?_
     refine TL_pass rfl rfl h49 rfl ?_
     refine TL_q (Qt_pick_f (.bool _) rfl h49 rfl) rfl ?_
     refine TL_q (Qt_assign (.bool _) rfl) rfl ?_
     refine TL_nil ?_
     refine X_then ?_
     refine T_cond_false rfl rfl ?_
     refine T_seq ?_
     refine T_draw (blk b5 (.cells x22.1.cells 30 (0, 0)) :: blk p (.cells (InstV.mk (KeysV.mk ⟨sa, sc, ls⟩ rt) (ViewV.mk num (mk : Int)) slot (some r3) (some r4) (some r5)).cells 91 (0, 0)) :: H) [(0, true), (1, true), (2, true), (3, true), (4, true), (5, true), (6, true), (7, true), (8, true)] (by kernel_rfl) (by kernel_rfl) rfl (by kernel_rfl) (Subs.st inferInstance) (fun hns4 => ?_)
     refine DL_q hns4 rfl (Qt_fieldAddr 2 rfl rfl) rfl ?_
     refine DL_q hns4 rfl (Qt_load1 rfl) rfl ?_
     refine DL_q hns4 rfl (Qt_move (.pointer _) rfl) rfl ?_
     refine DL_q hns4 rfl (Qt_nilCheck rfl) rfl ?_
     refine DL_q hns4 rfl (Qt_fieldAddr 2 rfl rfl) rfl ?_
     refine DL_q hns4 rfl (Qt_fieldAddr 2 rfl rfl) rfl ?_
     refine DL_q hns4 rfl (Qt_load1 rfl) rfl ?_
     refine DL_q hns4 rfl (Qt_neq rfl rfl) rfl ?_
     refine DL_q hns4 rfl (Qt_assign (.bool _) rfl) rfl ?_
     refine DL_nil ?_
     refine X_then ?_
     refine T_cond rfl (fun h54 => ?_) (fun h54 => ?_)
     ·
      have p54 := h54
      try simp only [decide_eq_true_eq, decide_eq_false_iff_not, Bool.not_eq_true', Bool.not_eq_false', Option.isNone_iff_eq_none, ne_eq, Decidable.not_not, Int.not_lt, Int.not_le] at p54
      refine T_seq ?_
      refine T_region ?_
      refine TL_q (Qt_assign (.int .i64 _) rfl) rfl ?_
      refine TL_nil ?_
      refine X_then ?_
      refine T_ret ?_
      refine X_block_ret ?_
      refine X_then_ret ?_
      have e : (takeI (ls.map BS.l) num mk slot V l) = (9, V) := by rw [takeI, if_neg (by omega), if_neg (by omega), if_pos (by rw [← hvw]; simpa using h54)]
      exact X_ret (⟨ps, c, ts, d, fp⟩ : IS) [_] Tryd.results27 ⟨rfl, trivial⟩ (by rw [e]; rfl) (fun w hw => (Subs.st inferInstance w hw : St w0 (blk p (.cells (InstV.mk (KeysV.mk ⟨sa, sc, ls⟩ rt) (ViewV.mk num (mk : Int)) slot (some r3) (some r4) (some r5)).cells 91 (0, 0)) :: blk r4 (mapO encB BS.val ps c) :: blk r5 (mapO encT encM ts d) :: eachA fp ((ps : PMI).map (·.v)) :: H) w).addPure (by rw [e]; exact hI))
     ·
      have p54 := h54
      try simp only [decide_eq_true_eq, decide_eq_false_iff_not, Bool.not_eq_true', Bool.not_eq_false', Option.isNone_iff_eq_none, ne_eq, Decidable.not_not, Int.not_lt, Int.not_le] at p54
      have hvn : (openOfK (ls.map BS.l) mk l).2.view = num := by rw [← hvw]; simpa using h54
      refine T_seq ?_
      refine T_draw (blk b5 (.cells x22.1.cells 30 (0, 0)) :: blk p (.cells (InstV.mk (KeysV.mk ⟨sa, sc, ls⟩ rt) (ViewV.mk num (mk : Int)) slot (some r3) (some r4) (some r5)).cells 91 (0, 0)) :: H) [(0, true), (1, true), (2, true), (3, true), (4, true), (5, true), (6, true), (7, true)] (by kernel_rfl) (by kernel_rfl) rfl (by kernel_rfl) (Subs.st inferInstance) (fun hns5 => ?_)
      refine DL_q hns5 rfl (Qt_fieldAddr 4 rfl rfl) rfl ?_
      refine DL_q hns5 rfl (Qt_load1 rfl) rfl ?_
      refine DL_q hns5 rfl (Qt_move (.pointer _) rfl) rfl ?_
      refine DL_q hns5 rfl (Qt_nilCheck rfl) rfl ?_
      refine DL_q hns5 rfl (Qt_fieldAddr 4 rfl rfl) rfl ?_
      refine DL_q hns5 rfl (Qt_load1 rfl) rfl ?_
      refine DL_q hns5 rfl (Qt_neq rfl rfl) rfl ?_
      refine DL_q hns5 rfl (Qt_assign (.bool _) rfl) rfl ?_
      refine DL_nil ?_
      refine X_then ?_
      refine T_cond rfl (fun h63 => ?_) (fun h63 => ?_)
      ·
       have p63 := h63
       try simp only [decide_eq_true_eq, decide_eq_false_iff_not, Bool.not_eq_true', Bool.not_eq_false', Option.isNone_iff_eq_none, ne_eq, Decidable.not_not, Int.not_lt, Int.not_le] at p63
       refine T_seq ?_
       refine T_region ?_
       refine TL_q (Qt_assign (.int .i64 _) rfl) rfl ?_
       refine TL_nil ?_
       refine X_then ?_
       refine T_ret ?_
       refine X_block_ret ?_
       refine X_then_ret ?_
       have e : (takeI (ls.map BS.l) num mk slot V l) = (8, V) := by rw [takeI, if_neg (by omega), if_neg (by omega), if_neg (by omega), if_pos (by rw [← hsl]; simpa using h63)]
       exact X_ret (⟨ps, c, ts, d, fp⟩ : IS) [_] Tryd.results27 ⟨rfl, trivial⟩ (by rw [e]; rfl) (fun w hw => (Subs.st inferInstance w hw : St w0 (blk p (.cells (InstV.mk (KeysV.mk ⟨sa, sc, ls⟩ rt) (ViewV.mk num (mk : Int)) slot (some r3) (some r4) (some r5)).cells 91 (0, 0)) :: blk r4 (mapO encB BS.val ps c) :: blk r5 (mapO encT encM ts d) :: eachA fp ((ps : PMI).map (·.v)) :: H) w).addPure (by rw [e]; exact hI))
      ·
       have p63 := h63
       try simp only [decide_eq_true_eq, decide_eq_false_iff_not, Bool.not_eq_true', Bool.not_eq_false', Option.isNone_iff_eq_none, ne_eq, Decidable.not_not, Int.not_lt, Int.not_le] at p63
       have hsn : (openOfK (ls.map BS.l) mk l).2.slot = slot := by rw [← hsl]; simpa using h63
       refine T_seq ?_
       refine T_region ?_
       refine TL_q (Qt_move (.bool _) rfl) rfl ?_
       refine TL_q (Qt_assign (.bool _) rfl) rfl ?_
       refine TL_nil ?_
       refine X_then ?_
       refine T_cond rfl (fun h71 => ?_) (fun h71 => ?_)
       ·
        have p71 := h71
        try simp only [decide_eq_true_eq, decide_eq_false_iff_not, Bool.not_eq_true', Bool.not_eq_false', Option.isNone_iff_eq_none, ne_eq, Decidable.not_not, Int.not_lt, Int.not_le] at p71
        refine T_seq ?_
        refine T_region ?_
        refine TL_q (Qt_assign (.int .i64 _) rfl) rfl ?_
        refine TL_nil ?_
        refine X_then ?_
        refine T_ret ?_
        refine X_block_ret ?_
        refine X_then_ret ?_
        have e : (takeI (ls.map BS.l) num mk slot V l) = (7, V) := by rw [takeI, if_neg (by omega), if_neg (by omega), if_neg (by omega), if_neg (by omega), if_pos (by rw [hbal, ← hI.has]; simpa using h71)]
        exact X_ret (⟨ps, c, ts, d, fp⟩ : IS) [_] Tryd.results27 ⟨rfl, trivial⟩ (by rw [e]; rfl) (fun w hw => (Subs.st inferInstance w hw : St w0 (blk p (.cells (InstV.mk (KeysV.mk ⟨sa, sc, ls⟩ rt) (ViewV.mk num (mk : Int)) slot (some r3) (some r4) (some r5)).cells 91 (0, 0)) :: blk r4 (mapO encB BS.val ps c) :: blk r5 (mapO encT encM ts d) :: eachA fp ((ps : PMI).map (·.v)) :: H) w).addPure (by rw [e]; exact hI))
       ·
        have p71 := h71
        try simp only [decide_eq_true_eq, decide_eq_false_iff_not, Bool.not_eq_true', Bool.not_eq_false', Option.isNone_iff_eq_none, ne_eq, Decidable.not_not, Int.not_lt, Int.not_le] at p71
        have hno : hasE ps (BalV.mk x22.1.frm x22.1.kind x22.1.reg) = false := by simpa using h71
        have hnp : (getP V (balD (openOfK (ls.map BS.l) mk l).2)).isSome = false := by rw [hbal, ← hI.has]; exact hno
        refine T_skip ?_
        refine X_block ?_
        refine X_then ?_
        refine T_seq ?_
        refine T_draw (blk b7 (.cells (BalV.mk x22.1.frm x22.1.kind x22.1.reg).cells 95 (0, 0)) :: blk p (.cells (InstV.mk (KeysV.mk ⟨sa, sc, ls⟩ rt) (ViewV.mk num (mk : Int)) slot (some r3) (some r4) (some r5)).cells 91 (0, 0)) :: H) [(0, true), (1, true), (2, true), (3, true), (4, true), (5, true), (6, false), (7, false)] (by kernel_rfl) (by kernel_rfl) rfl (by kernel_rfl) (Subs.st inferInstance) (fun hns6 => ?_)
        refine DL_q hns6 rfl (Qt_move (.pointer _) rfl) rfl ?_
        refine DL_q hns6 rfl (Qt_nilCheck rfl) rfl ?_
        refine DL_q hns6 rfl (Qt_fieldAddr 6 rfl rfl) rfl ?_
        refine DL_q hns6 rfl (Qt_load1 rfl) rfl ?_
        refine DL_q hns6 rfl (Qt_loadN rfl rfl) rfl ?_
        refine DL_q hns6 rfl (Qt_move (.slice _ _ _) rfl) rfl ?_
        refine DL_e rfl rfl (Ef_call (clone_c (by omega)) rfl (fun x79 => ⟨(Subs.st inferInstance), ?_⟩))
        obtain ⟨f, hfe⟩ := Int.eq_ofNat_of_zero_le hf0.1
        have hf16 : f < 16 := by omega
        have h2f : 2 ^ f < 65536 := Nat.pow_lt_pow_right (by decide) hf16
        have hml : (getE ts (TalV.mk x22.1.kind x22.1.reg x22.1.hash)).getD 0 < 65536 := by rw [hI.ht]; exact hI.lt _
        refine DL_n rfl (Ef_mapUpdate (key := (BalV.mk x22.1.frm x22.1.kind x22.1.reg)) (enc := encB) (ev := BS.val) ((BS.mk x79.a x79.c l)) rfl rfl rfl Tryd.underlying88 (⟨(Subs.st inferInstance), ?_⟩))
        refine DL_nil ?_
        refine X_then ?_
        refine T_seq ?_
        refine T_drawF (blk b5 (.cells x22.1.cells 30 (0, 0)) :: blk p (.cells (InstV.mk (KeysV.mk ⟨sa, sc, ls⟩ rt) (ViewV.mk num (mk : Int)) slot (some r3) (some r4) (some r5)).cells 91 (0, 0)) :: H) (by kernel_rfl) (Subs.st inferInstance) ?_
        refine DLF_q (i := 0) (by kernel_rfl) rfl (by kernel_rfl) (by kernel_rfl) (Qt_move (.pointer _) rfl) rfl ?_
        refine DLF_q (i := 1) (by kernel_rfl) rfl (by kernel_rfl) (by kernel_rfl) (Qt_nilCheck rfl) rfl ?_
        refine DLF_q (i := 2) (by kernel_rfl) rfl (by kernel_rfl) (by kernel_rfl) (Qt_fieldAddr 7 rfl rfl) rfl ?_
        refine DLF_q (i := 3) (by kernel_rfl) rfl (by kernel_rfl) (by kernel_rfl) (Qt_load1 rfl) rfl ?_
        refine DLF_q (i := 4) (by kernel_rfl) rfl (by kernel_rfl) (by kernel_rfl) (Qt_fieldAddr 0 rfl rfl) rfl ?_
        refine DLF_q (i := 5) (by kernel_rfl) rfl (by kernel_rfl) (by kernel_rfl) (Qt_load1 rfl) rfl ?_
        refine DLF_q (i := 6) (by kernel_rfl) rfl (by kernel_rfl) (by kernel_rfl) (Qt_fieldAddr 3 rfl rfl) rfl ?_
        refine DLF_q (i := 7) (by kernel_rfl) rfl (by kernel_rfl) (by kernel_rfl) (Qt_load1 rfl) rfl ?_
        refine DLF_q (i := 8) (by kernel_rfl) rfl (by kernel_rfl) (by kernel_rfl) (Qt_fieldAddr 5 rfl rfl) rfl ?_
        refine DLF_q (i := 9) (by kernel_rfl) rfl (by kernel_rfl) (by kernel_rfl) (Qt_loadN rfl rfl) rfl ?_
        refine DLF_q (i := 10) (by kernel_rfl) rfl (by kernel_rfl) (by kernel_rfl) (Qt_build [(0, (.int .i64 _)), (1, (.int .i64 _)), (2, (.agg _))] rfl (by kernel_rfl)) rfl ?_
        refine DLF_q (i := 12) (by kernel_rfl) rfl (by kernel_rfl) (by kernel_rfl) (Qt_fieldAddr 1 rfl rfl) rfl ?_
        refine DLF_q (i := 13) (by kernel_rfl) rfl (by kernel_rfl) (by kernel_rfl) (Qt_load1 rfl) rfl ?_
        refine DLF_q (i := 14) (by kernel_rfl) rfl (by kernel_rfl) (by kernel_rfl) (Qt_val (Qt_shlN (k := .u16) (a := 1) (m := f) rfl (show Value.int .i64 x22.1.frm = Value.int .i64 (f : Int) from by rw [hfe]) (by show f ≤ 16; omega) (by show 1 * 2 ^ f < 2 ^ 16; omega) rfl) (show Value.int .u16 ((1 * 2 ^ f : Nat) : Int) = Value.int .u16 ((2 ^ f : Nat) : Int) from by rw [Nat.one_mul])) rfl ?_
        refine DLF_2 (i := 11) (j := 16) (by kernel_rfl) ?_ ?_
        ·
         refine DLS_e rfl rfl (Ef_of_Qt (Qt_lookup1 (key := (TalV.mk x22.1.kind x22.1.reg x22.1.hash)) (enc := encT) (ev := encM) ((0 : Nat)) rfl rfl Tryd.underlying89 ((inferInstance : TyZ Tryd.prog 22 (.int .u16 0)).ok)) ⟨(Subs.st inferInstance), ?_⟩)
         try simp only [getE_putK, if_true, Option.getD_some]
         refine DLF_q (i := 15) (by kernel_rfl) rfl (by kernel_rfl) (by kernel_rfl) (Qt_orN rfl rfl rfl (by show _ < 2 ^ 16; omega) (by show _ < 2 ^ 16; omega)) rfl ?_
         refine DLF_1 (i := 16) (by kernel_rfl) ?_
         refine DLS_e rfl rfl (Ef_mapEntry (key := (TalV.mk x22.1.kind x22.1.reg x22.1.hash)) (enc := encT) (ev := encM) (0 : Nat) rfl rfl Tryd.underlying89 ((inferInstance : TyZ Tryd.prog 22 (.int .u16 0)).ok) (⟨(Subs.st inferInstance), ?_⟩))
         refine DLF_q (i := 17) (by kernel_rfl) rfl (by kernel_rfl) (by kernel_rfl) (Qt_extract rfl) rfl ?_
         refine DLF_1 (i := 18) (by kernel_rfl) ?_
         refine DLS_n rfl (Ef_entryStore (key := (TalV.mk x22.1.kind x22.1.reg x22.1.hash)) (enc := encT) (ev := encM) ((getE ts (TalV.mk x22.1.kind x22.1.reg x22.1.hash)).getD 0 ||| 2 ^ f) rfl rfl rfl (putE_goodK hI.gt _ _).born (putE_find _ _ _ _) (⟨(Subs.st inferInstance), ?_⟩))
         refine DLF_nil (by kernel_rfl) ?_
         refine X_then ?_
         refine T_seq ?_
         refine T_region ?_
         refine TL_q (Qt_assign (.int .i64 _) rfl) rfl ?_
         refine TL_nil ?_
         refine X_then ?_
         refine T_ret ?_
         have e : (takeI (ls.map BS.l) num mk slot V l) = (0, V ++ [(x22.1.abs, l)]) := by rw [takeI, if_neg (by omega), if_neg (by omega), if_neg (by omega), if_neg (by omega), if_neg (by rw [hnp]; decide), hx]
         rw [putE_putE]
         have hst := hI.step (o := x22.1.abs) (l := l) (b := (BS.mk x79.a x79.c l)) rfl (by show x22.1.kind ≠ 0; omega) (by show x22.1.view = num; omega) (by show x22.1.slot = slot; omega) (by rw [hx]; exact hnp) hf0 hl
         rw [show x22.1.abs.frm.toNat = f from by show x22.1.frm.toNat = f; omega] at hst
         have hm : (putE ps (BalV.mk x22.1.frm x22.1.kind x22.1.reg) (BS.mk x79.a x79.c l) c).map (·.v) = ps.map (·.v) ++ [(BS.mk x79.a x79.c l)] := by rw [putE_none _ _ _ _ hno]; simp
         refine X_ret (⟨putE ps (BalV.mk x22.1.frm x22.1.kind x22.1.reg) (BS.mk x79.a x79.c l) c, clockE ps (BalV.mk x22.1.frm x22.1.kind x22.1.reg) c, putE ts (TalV.mk x22.1.kind x22.1.reg x22.1.hash) ((getE ts (TalV.mk x22.1.kind x22.1.reg x22.1.hash)).getD 0 ||| 2 ^ f) d, clockE ts (TalV.mk x22.1.kind x22.1.reg x22.1.hash) d, rowFp (BS.val (BS.mk x79.a x79.c l)) ++ fp⟩ : IS) [_] Tryd.results27 ⟨rfl, trivial⟩ (by rw [e]; rfl) (fun w hw => ?_)
         have h1 : St w0 (row (BS.val (BS.mk x79.a x79.c l)) 5 1 (bytesV (BS.l (BS.mk x79.a x79.c l))) :: eachA fp (ps.map (·.v)) :: blk p (.cells (InstV.mk (KeysV.mk ⟨sa, sc, ls⟩ rt) (ViewV.mk num (mk : Int)) slot (some r3) (some r4) (some r5)).cells 91 (0, 0)) :: blk r4 (mapO encB BS.val (putE ps (BalV.mk x22.1.frm x22.1.kind x22.1.reg) (BS.mk x79.a x79.c l) c) (clockE ps (BalV.mk x22.1.frm x22.1.kind x22.1.reg) c)) :: blk r5 (mapO encT encM (putE ts (TalV.mk x22.1.kind x22.1.reg x22.1.hash) ((getE ts (TalV.mk x22.1.kind x22.1.reg x22.1.hash)).getD 0 ||| 2 ^ f) d) (clockE ts (TalV.mk x22.1.kind x22.1.reg x22.1.hash) d)) :: H) w := Subs.st inferInstance w hw
         have h2 := h1.eachAdd
         rw [← hm] at h2
         exact (Subs.st inferInstance w h2 : St w0 (blk p (.cells (InstV.mk (KeysV.mk ⟨sa, sc, ls⟩ rt) (ViewV.mk num (mk : Int)) slot (some r3) (some r4) (some r5)).cells 91 (0, 0)) :: blk r4 (mapO encB BS.val (putE ps (BalV.mk x22.1.frm x22.1.kind x22.1.reg) (BS.mk x79.a x79.c l) c) (clockE ps (BalV.mk x22.1.frm x22.1.kind x22.1.reg) c)) :: blk r5 (mapO encT encM (putE ts (TalV.mk x22.1.kind x22.1.reg x22.1.hash) ((getE ts (TalV.mk x22.1.kind x22.1.reg x22.1.hash)).getD 0 ||| 2 ^ f) d) (clockE ts (TalV.mk x22.1.kind x22.1.reg x22.1.hash) d)) :: eachA (rowFp (BS.val (BS.mk x79.a x79.c l)) ++ fp) (((putE ps (BalV.mk x22.1.frm x22.1.kind x22.1.reg) (BS.mk x79.a x79.c l) c) : PMI).map (·.v)) :: H) w).addPure (by rw [e]; exact hst)
        ·
         refine DLS_e rfl rfl (Ef_mapEntry (key := (TalV.mk x22.1.kind x22.1.reg x22.1.hash)) (enc := encT) (ev := encM) (0 : Nat) rfl rfl Tryd.underlying89 ((inferInstance : TyZ Tryd.prog 22 (.int .u16 0)).ok) (⟨(Subs.st inferInstance), ?_⟩))
         refine DLF_q (i := 17) (by kernel_rfl) rfl (by kernel_rfl) (by kernel_rfl) (Qt_extract rfl) rfl ?_
         refine DLF_1 (i := 11) (by kernel_rfl) ?_
         refine DLS_e rfl rfl (Ef_of_Qt (Qt_lookup1 (key := (TalV.mk x22.1.kind x22.1.reg x22.1.hash)) (enc := encT) (ev := encM) ((0 : Nat)) rfl rfl Tryd.underlying89 ((inferInstance : TyZ Tryd.prog 22 (.int .u16 0)).ok)) ⟨(Subs.st inferInstance), ?_⟩)
         try simp only [getE_putK, if_true, Option.getD_some]
         refine DLF_q (i := 15) (by kernel_rfl) rfl (by kernel_rfl) (by kernel_rfl) (Qt_orN rfl rfl rfl (by show _ < 2 ^ 16; omega) (by show _ < 2 ^ 16; omega)) rfl ?_
         refine DLF_1 (i := 18) (by kernel_rfl) ?_
         refine DLS_n rfl (Ef_entryStore (key := (TalV.mk x22.1.kind x22.1.reg x22.1.hash)) (enc := encT) (ev := encM) ((getE ts (TalV.mk x22.1.kind x22.1.reg x22.1.hash)).getD 0 ||| 2 ^ f) rfl rfl rfl (putE_goodK hI.gt _ _).born (putE_find _ _ _ _) (⟨(Subs.st inferInstance), ?_⟩))
         refine DLF_nil (by kernel_rfl) ?_
         refine X_then ?_
         refine T_seq ?_
         refine T_region ?_
         refine TL_q (Qt_assign (.int .i64 _) rfl) rfl ?_
         refine TL_nil ?_
         refine X_then ?_
         refine T_ret ?_
         have e : (takeI (ls.map BS.l) num mk slot V l) = (0, V ++ [(x22.1.abs, l)]) := by rw [takeI, if_neg (by omega), if_neg (by omega), if_neg (by omega), if_neg (by omega), if_neg (by rw [hnp]; decide), hx]
         rw [putE_putE]
         have hst := hI.step (o := x22.1.abs) (l := l) (b := (BS.mk x79.a x79.c l)) rfl (by show x22.1.kind ≠ 0; omega) (by show x22.1.view = num; omega) (by show x22.1.slot = slot; omega) (by rw [hx]; exact hnp) hf0 hl
         rw [show x22.1.abs.frm.toNat = f from by show x22.1.frm.toNat = f; omega] at hst
         have hm : (putE ps (BalV.mk x22.1.frm x22.1.kind x22.1.reg) (BS.mk x79.a x79.c l) c).map (·.v) = ps.map (·.v) ++ [(BS.mk x79.a x79.c l)] := by rw [putE_none _ _ _ _ hno]; simp
         refine X_ret (⟨putE ps (BalV.mk x22.1.frm x22.1.kind x22.1.reg) (BS.mk x79.a x79.c l) c, clockE ps (BalV.mk x22.1.frm x22.1.kind x22.1.reg) c, putE ts (TalV.mk x22.1.kind x22.1.reg x22.1.hash) ((getE ts (TalV.mk x22.1.kind x22.1.reg x22.1.hash)).getD 0 ||| 2 ^ f) d, clockE ts (TalV.mk x22.1.kind x22.1.reg x22.1.hash) d, rowFp (BS.val (BS.mk x79.a x79.c l)) ++ fp⟩ : IS) [_] Tryd.results27 ⟨rfl, trivial⟩ (by rw [e]; rfl) (fun w hw => ?_)
         have h1 : St w0 (row (BS.val (BS.mk x79.a x79.c l)) 5 1 (bytesV (BS.l (BS.mk x79.a x79.c l))) :: eachA fp (ps.map (·.v)) :: blk p (.cells (InstV.mk (KeysV.mk ⟨sa, sc, ls⟩ rt) (ViewV.mk num (mk : Int)) slot (some r3) (some r4) (some r5)).cells 91 (0, 0)) :: blk r4 (mapO encB BS.val (putE ps (BalV.mk x22.1.frm x22.1.kind x22.1.reg) (BS.mk x79.a x79.c l) c) (clockE ps (BalV.mk x22.1.frm x22.1.kind x22.1.reg) c)) :: blk r5 (mapO encT encM (putE ts (TalV.mk x22.1.kind x22.1.reg x22.1.hash) ((getE ts (TalV.mk x22.1.kind x22.1.reg x22.1.hash)).getD 0 ||| 2 ^ f) d) (clockE ts (TalV.mk x22.1.kind x22.1.reg x22.1.hash) d)) :: H) w := Subs.st inferInstance w hw
         have h2 := h1.eachAdd
         rw [← hm] at h2
         exact (Subs.st inferInstance w h2 : St w0 (blk p (.cells (InstV.mk (KeysV.mk ⟨sa, sc, ls⟩ rt) (ViewV.mk num (mk : Int)) slot (some r3) (some r4) (some r5)).cells 91 (0, 0)) :: blk r4 (mapO encB BS.val (putE ps (BalV.mk x22.1.frm x22.1.kind x22.1.reg) (BS.mk x79.a x79.c l) c) (clockE ps (BalV.mk x22.1.frm x22.1.kind x22.1.reg) c)) :: blk r5 (mapO encT encM (putE ts (TalV.mk x22.1.kind x22.1.reg x22.1.hash) ((getE ts (TalV.mk x22.1.kind x22.1.reg x22.1.hash)).getD 0 ||| 2 ^ f) d) (clockE ts (TalV.mk x22.1.kind x22.1.reg x22.1.hash) d)) :: eachA (rowFp (BS.val (BS.mk x79.a x79.c l)) ++ fp) (((putE ps (BalV.mk x22.1.frm x22.1.kind x22.1.reg) (BS.mk x79.a x79.c l) c) : PMI).map (·.v)) :: H) w).addPure (by rw [e]; exact hst)
  ·
   refine DLS_e rfl rfl (Ef_allocN (fun b5 => ⟨(Subs.st inferInstance), ?_⟩))
   refine DLF_1 (i := 9) (by kernel_rfl) ?_
   refine DLS_e rfl rfl (Ef_call (openOf_c (sa := sa) (sc := sc) (ls := ls) (rt := rt) (num := num) hmk hkl hl) rfl (fun x22 => ⟨(Subs.st inferInstance), ?_⟩))
   refine DLF_pure (fun hx => ?_)
   have hfr : x22.1.frm = (openOfK (ls.map BS.l) mk l).2.frm := congrArg MsgD.frm hx
   have hkd : x22.1.kind = (openOfK (ls.map BS.l) mk l).2.kind := congrArg MsgD.kind hx
   have hvw : x22.1.view = (openOfK (ls.map BS.l) mk l).2.view := congrArg MsgD.view hx
   have hsl : x22.1.slot = (openOfK (ls.map BS.l) mk l).2.slot := congrArg MsgD.slot hx
   have hf0 : 0 ≤ x22.1.frm ∧ x22.1.frm < 16 := by rw [hfr]; exact opn_frm (ls.map BS.l) mk l
   have hbal : balD (openOfK (ls.map BS.l) mk l).2 = (BalV.mk x22.1.frm x22.1.kind x22.1.reg) := by rw [← hx]; rfl
   refine DLF_q (i := 10) (by kernel_rfl) rfl (by kernel_rfl) (by kernel_rfl) (Qt_move (.tuple _) rfl) rfl ?_
   refine DLF_q (i := 11) (by kernel_rfl) rfl (by kernel_rfl) (by kernel_rfl) (Qt_extract rfl) rfl ?_
   refine DLF_q (i := 12) (by kernel_rfl) rfl (by kernel_rfl) (by kernel_rfl) (Qt_extract rfl) rfl ?_
   refine DLF_1 (i := 14) (by kernel_rfl) ?_
   refine DLS_n rfl (Ef_storeN rfl rfl (⟨(Subs.st inferInstance), ?_⟩))
   refine DLF_q (i := 15) (by kernel_rfl) rfl (by kernel_rfl) (by kernel_rfl) (Qt_assign (.int .i64 _) rfl) rfl ?_
   refine DLF_nil (by kernel_rfl) ?_
   refine X_then ?_
   refine T_seq ?_
   refine T_region ?_
   refine TL_q (Qt_fieldAddr 1 rfl rfl) rfl ?_
   refine TL_q (Qt_load1 rfl) rfl ?_
   refine TL_q (Qt_fieldAddr 0 rfl rfl) rfl ?_
   refine TL_q (Qt_load1 rfl) rfl ?_
   refine TL_q (Qt_fieldAddr 3 rfl rfl) rfl ?_
   refine TL_q (Qt_load1 rfl) rfl ?_
   refine TL_q (Qt_build [(0, (.int .i64 _)), (1, (.int .i64 _)), (2, (.int .i64 _))] rfl (by kernel_rfl)) rfl ?_
   refine TL_e rfl (Ef_allocN (fun b7 => ?_))
   refine TL_n (Ef_storeN rfl rfl (?_))
   refine TL_nil ?_
   refine X_then ?_
   refine T_seq ?_
   refine T_draw (blk b5 (.cells x22.1.cells 30 (0, 0)) :: blk b7 (.cells (BalV.mk x22.1.frm x22.1.kind x22.1.reg).cells 95 (0, 0)) :: blk p (.cells (InstV.mk (KeysV.mk ⟨sa, sc, ls⟩ rt) (ViewV.mk num (mk : Int)) slot (some r3) (some r4) (some r5)).cells 91 (0, 0)) :: blk r4 (mapO encB BS.val ps c) :: H) [(0, true), (1, true), (2, true), (3, true), (4, true), (5, true), (6, true), (7, true), (8, true), (9, true), (10, true)] (by kernel_rfl) (by kernel_rfl) rfl (by kernel_rfl) (Subs.st inferInstance) (fun hns7 => ?_)
   refine DL_q hns7 rfl (Qt_move (.pointer _) rfl) rfl ?_
   refine DL_q hns7 rfl (Qt_nilCheck rfl) rfl ?_
   refine DL_q hns7 rfl (Qt_fieldAddr 6 rfl rfl) rfl ?_
   refine DL_q hns7 rfl (Qt_load1 rfl) rfl ?_
   refine DL_q hns7 rfl (Qt_loadN rfl rfl) rfl ?_
   refine DL_q hns7 rfl (Qt_lookup2 (key := (BalV.mk x22.1.frm x22.1.kind x22.1.reg)) (enc := encB) (ev := BS.val) (⟨none, 0, []⟩) rfl rfl Tryd.underlying88 ((inferInstance : TyZ Tryd.prog 27 (.slice none 0 0)).ok)) rfl ?_
   refine DL_q hns7 rfl (Qt_move (.tuple _) rfl) rfl ?_
   refine DL_q hns7 rfl (Qt_extract rfl) rfl ?_
   refine DL_q hns7 rfl (Qt_extract rfl) rfl ?_
   refine DL_q hns7 rfl (Qt_assign (.slice _ _ _) rfl) rfl ?_
   refine DL_q hns7 rfl (Qt_assign (.bool _) rfl) rfl ?_
   refine DL_nil ?_
   refine X_then ?_
   refine T_seq ?_
   refine T_block ?_
   refine T_seq ?_
   refine T_region ?_
   refine TL_q (Qt_move (.int .i64 _) rfl) rfl ?_
   refine TL_q (Qt_neq rfl rfl) rfl ?_
   refine TL_q (Qt_assign (.bool _) rfl) rfl ?_
   refine TL_nil ?_
   refine X_then ?_
   refine T_cond rfl (fun h41 => ?_) (fun h41 => ?_)
   ·
    have p41 := h41
    try simp only [decide_eq_true_eq, decide_eq_false_iff_not, Bool.not_eq_true', Bool.not_eq_false', Option.isNone_iff_eq_none, ne_eq, Decidable.not_not, Int.not_lt, Int.not_le] at p41
    refine T_seq ?_
    refine T_region ?_
    refine TL_q (Qt_move (.int .i64 _) rfl) rfl ?_
    refine TL_q (Qt_assign (.int .i64 _) rfl) rfl ?_
    refine TL_nil ?_
    refine X_then ?_
    refine T_ret ?_
    refine X_block_ret ?_
    refine X_then_ret ?_
    have e : (takeI (ls.map BS.l) num mk slot V l) = ((openOfK (ls.map BS.l) mk l).1, V) := by rw [takeI, if_pos (by simpa using h41)]
    exact X_ret (⟨ps, c, ts, d, fp⟩ : IS) [_] Tryd.results27 ⟨rfl, trivial⟩ (by rw [e]; rfl) (fun w hw => (Subs.st inferInstance w hw : St w0 (blk p (.cells (InstV.mk (KeysV.mk ⟨sa, sc, ls⟩ rt) (ViewV.mk num (mk : Int)) slot (some r3) (some r4) (some r5)).cells 91 (0, 0)) :: blk r4 (mapO encB BS.val ps c) :: blk r5 (mapO encT encM ts d) :: eachA fp ((ps : PMI).map (·.v)) :: H) w).addPure (by rw [e]; exact hI))
   ·
    have p41 := h41
    try simp only [decide_eq_true_eq, decide_eq_false_iff_not, Bool.not_eq_true', Bool.not_eq_false', Option.isNone_iff_eq_none, ne_eq, Decidable.not_not, Int.not_lt, Int.not_le] at p41
    have hz : (openOfK (ls.map BS.l) mk l).1 = 0 := by simpa using h41
    refine T_seq ?_
    refine T_region ?_
    refine TL_q (Qt_fieldAddr 0 rfl rfl) rfl ?_
    refine TL_q (Qt_load1 rfl) rfl ?_
    refine TL_q (Qt_neq rfl rfl) rfl ?_
    refine TL_q (Qt_move (.bool _) rfl) rfl ?_
    refine TL_split 49 rfl (fun h49 => ?_) (fun h49 => ?_)
    ·
     have p49 := h49
     try simp only [decide_eq_true_eq, decide_eq_false_iff_not, Bool.not_eq_true', Bool.not_eq_false', Option.isNone_iff_eq_none, ne_eq, Decidable.not_not, Int.not_lt, Int.not_le] at p49
     refine TL_take rfl rfl h49 ?_
     refine TL_q (Qt_fieldAddr 0 rfl rfl) rfl ?_
     refine TL_take rfl rfl h49 ?_
     refine TL_q (Qt_load1 rfl) rfl ?_
     refine TL_take rfl rfl h49 ?_
     refine TL_q (Qt_neq rfl rfl) rfl ?_
     refine TL_q (Qt_pick_t (.bool _) rfl h49 rfl) rfl ?_
     refine TL_q (Qt_assign (.bool _) rfl) rfl ?_
     refine TL_nil ?_
     refine X_then ?_
     refine T_cond rfl (fun h45 => ?_) (fun h45 => ?_)
     ·
      have p45 := h45
      try simp only [decide_eq_true_eq, decide_eq_false_iff_not, Bool.not_eq_true', Bool.not_eq_false', Option.isNone_iff_eq_none, ne_eq, Decidable.not_not, Int.not_lt, Int.not_le] at p45
      refine T_seq ?_
      refine T_region ?_
      refine TL_q (Qt_assign (.int .i64 _) rfl) rfl ?_
      refine TL_nil ?_
      refine X_then ?_
      refine T_ret ?_
      refine X_block_ret ?_
      refine X_then_ret ?_
      have e : (takeI (ls.map BS.l) num mk slot V l) = (15, V) := by rw [takeI, if_neg (by omega), if_pos (by rw [← hkd]; simp_all)]
      exact X_ret (⟨ps, c, ts, d, fp⟩ : IS) [_] Tryd.results27 ⟨rfl, trivial⟩ (by rw [e]; rfl) (fun w hw => (Subs.st inferInstance w hw : St w0 (blk p (.cells (InstV.mk (KeysV.mk ⟨sa, sc, ls⟩ rt) (ViewV.mk num (mk : Int)) slot (some r3) (some r4) (some r5)).cells 91 (0, 0)) :: blk r4 (mapO encB BS.val ps c) :: blk r5 (mapO encT encM ts d) :: eachA fp ((ps : PMI).map (·.v)) :: H) w).addPure (by rw [e]; exact hI))
     ·
      have p45 := h45
      try simp only [decide_eq_true_eq, decide_eq_false_iff_not, Bool.not_eq_true', Bool.not_eq_false', Option.isNone_iff_eq_none, ne_eq, Decidable.not_not, Int.not_lt, Int.not_le] at p45
      have hk4 : (openOfK (ls.map BS.l) mk l).2.kind = 2 ∨ (openOfK (ls.map BS.l) mk l).2.kind = 3 := by rw [← hkd]; first | (simp_all; done) | (simp_all; omega)
      refine T_seq ?_
      refine T_draw (blk b5 (.cells x22.1.cells 30 (0, 0)) :: blk p (.cells (InstV.mk (KeysV.mk ⟨sa, sc, ls⟩ rt) (ViewV.mk num (mk : Int)) slot (some r3) (some r4) (some r5)).cells 91 (0, 0)) :: H) [(0, true), (1, true), (2, true), (3, true), (4, true), (5, true), (6, true), (7, true), (8, true)] (by kernel_rfl) (by kernel_rfl) rfl (by kernel_rfl) (Subs.st inferInstance) (fun hns8 => ?_)
      refine DL_q hns8 rfl (Qt_fieldAddr 2 rfl rfl) rfl ?_
      refine DL_q hns8 rfl (Qt_load1 rfl) rfl ?_
      refine DL_q hns8 rfl (Qt_move (.pointer _) rfl) rfl ?_
      refine DL_q hns8 rfl (Qt_nilCheck rfl) rfl ?_
      refine DL_q hns8 rfl (Qt_fieldAddr 2 rfl rfl) rfl ?_
      refine DL_q hns8 rfl (Qt_fieldAddr 2 rfl rfl) rfl ?_
      refine DL_q hns8 rfl (Qt_load1 rfl) rfl ?_
      refine DL_q hns8 rfl (Qt_neq rfl rfl) rfl ?_
      refine DL_q hns8 rfl (Qt_assign (.bool _) rfl) rfl ?_
      refine DL_nil ?_
      refine X_then ?_
      refine T_cond rfl (fun h54 => ?_) (fun h54 => ?_)
      ·
       have p54 := h54
       try simp only [decide_eq_true_eq, decide_eq_false_iff_not, Bool.not_eq_true', Bool.not_eq_false', Option.isNone_iff_eq_none, ne_eq, Decidable.not_not, Int.not_lt, Int.not_le] at p54
       refine T_seq ?_
       refine T_region ?_
       refine TL_q (Qt_assign (.int .i64 _) rfl) rfl ?_
       refine TL_nil ?_
       refine X_then ?_
       refine T_ret ?_
       refine X_block_ret ?_
       refine X_then_ret ?_
       have e : (takeI (ls.map BS.l) num mk slot V l) = (9, V) := by rw [takeI, if_neg (by omega), if_neg (by omega), if_pos (by rw [← hvw]; simpa using h54)]
       exact X_ret (⟨ps, c, ts, d, fp⟩ : IS) [_] Tryd.results27 ⟨rfl, trivial⟩ (by rw [e]; rfl) (fun w hw => (Subs.st inferInstance w hw : St w0 (blk p (.cells (InstV.mk (KeysV.mk ⟨sa, sc, ls⟩ rt) (ViewV.mk num (mk : Int)) slot (some r3) (some r4) (some r5)).cells 91 (0, 0)) :: blk r4 (mapO encB BS.val ps c) :: blk r5 (mapO encT encM ts d) :: eachA fp ((ps : PMI).map (·.v)) :: H) w).addPure (by rw [e]; exact hI))
      ·
       have p54 := h54
       try simp only [decide_eq_true_eq, decide_eq_false_iff_not, Bool.not_eq_true', Bool.not_eq_false', Option.isNone_iff_eq_none, ne_eq, Decidable.not_not, Int.not_lt, Int.not_le] at p54
       have hvn : (openOfK (ls.map BS.l) mk l).2.view = num := by rw [← hvw]; simpa using h54
       refine T_seq ?_
       refine T_draw (blk b5 (.cells x22.1.cells 30 (0, 0)) :: blk p (.cells (InstV.mk (KeysV.mk ⟨sa, sc, ls⟩ rt) (ViewV.mk num (mk : Int)) slot (some r3) (some r4) (some r5)).cells 91 (0, 0)) :: H) [(0, true), (1, true), (2, true), (3, true), (4, true), (5, true), (6, true), (7, true)] (by kernel_rfl) (by kernel_rfl) rfl (by kernel_rfl) (Subs.st inferInstance) (fun hns9 => ?_)
       refine DL_q hns9 rfl (Qt_fieldAddr 4 rfl rfl) rfl ?_
       refine DL_q hns9 rfl (Qt_load1 rfl) rfl ?_
       refine DL_q hns9 rfl (Qt_move (.pointer _) rfl) rfl ?_
       refine DL_q hns9 rfl (Qt_nilCheck rfl) rfl ?_
       refine DL_q hns9 rfl (Qt_fieldAddr 4 rfl rfl) rfl ?_
       refine DL_q hns9 rfl (Qt_load1 rfl) rfl ?_
       refine DL_q hns9 rfl (Qt_neq rfl rfl) rfl ?_
       refine DL_q hns9 rfl (Qt_assign (.bool _) rfl) rfl ?_
       refine DL_nil ?_
       refine X_then ?_
       refine T_cond rfl (fun h63 => ?_) (fun h63 => ?_)
       ·
        have p63 := h63
        try simp only [decide_eq_true_eq, decide_eq_false_iff_not, Bool.not_eq_true', Bool.not_eq_false', Option.isNone_iff_eq_none, ne_eq, Decidable.not_not, Int.not_lt, Int.not_le] at p63
        refine T_seq ?_
        refine T_region ?_
        refine TL_q (Qt_assign (.int .i64 _) rfl) rfl ?_
        refine TL_nil ?_
        refine X_then ?_
        refine T_ret ?_
        refine X_block_ret ?_
        refine X_then_ret ?_
        have e : (takeI (ls.map BS.l) num mk slot V l) = (8, V) := by rw [takeI, if_neg (by omega), if_neg (by omega), if_neg (by omega), if_pos (by rw [← hsl]; simpa using h63)]
        exact X_ret (⟨ps, c, ts, d, fp⟩ : IS) [_] Tryd.results27 ⟨rfl, trivial⟩ (by rw [e]; rfl) (fun w hw => (Subs.st inferInstance w hw : St w0 (blk p (.cells (InstV.mk (KeysV.mk ⟨sa, sc, ls⟩ rt) (ViewV.mk num (mk : Int)) slot (some r3) (some r4) (some r5)).cells 91 (0, 0)) :: blk r4 (mapO encB BS.val ps c) :: blk r5 (mapO encT encM ts d) :: eachA fp ((ps : PMI).map (·.v)) :: H) w).addPure (by rw [e]; exact hI))
       ·
        have p63 := h63
        try simp only [decide_eq_true_eq, decide_eq_false_iff_not, Bool.not_eq_true', Bool.not_eq_false', Option.isNone_iff_eq_none, ne_eq, Decidable.not_not, Int.not_lt, Int.not_le] at p63
        have hsn : (openOfK (ls.map BS.l) mk l).2.slot = slot := by rw [← hsl]; simpa using h63
        refine T_seq ?_
        refine T_region ?_
        refine TL_q (Qt_move (.bool _) rfl) rfl ?_
        refine TL_q (Qt_assign (.bool _) rfl) rfl ?_
        refine TL_nil ?_
        refine X_then ?_
        refine T_cond rfl (fun h71 => ?_) (fun h71 => ?_)
        ·
         have p71 := h71
         try simp only [decide_eq_true_eq, decide_eq_false_iff_not, Bool.not_eq_true', Bool.not_eq_false', Option.isNone_iff_eq_none, ne_eq, Decidable.not_not, Int.not_lt, Int.not_le] at p71
         refine T_seq ?_
         refine T_region ?_
         refine TL_q (Qt_assign (.int .i64 _) rfl) rfl ?_
         refine TL_nil ?_
         refine X_then ?_
         refine T_ret ?_
         refine X_block_ret ?_
         refine X_then_ret ?_
         have e : (takeI (ls.map BS.l) num mk slot V l) = (7, V) := by rw [takeI, if_neg (by omega), if_neg (by omega), if_neg (by omega), if_neg (by omega), if_pos (by rw [hbal, ← hI.has]; simpa using h71)]
         exact X_ret (⟨ps, c, ts, d, fp⟩ : IS) [_] Tryd.results27 ⟨rfl, trivial⟩ (by rw [e]; rfl) (fun w hw => (Subs.st inferInstance w hw : St w0 (blk p (.cells (InstV.mk (KeysV.mk ⟨sa, sc, ls⟩ rt) (ViewV.mk num (mk : Int)) slot (some r3) (some r4) (some r5)).cells 91 (0, 0)) :: blk r4 (mapO encB BS.val ps c) :: blk r5 (mapO encT encM ts d) :: eachA fp ((ps : PMI).map (·.v)) :: H) w).addPure (by rw [e]; exact hI))
        ·
         have p71 := h71
         try simp only [decide_eq_true_eq, decide_eq_false_iff_not, Bool.not_eq_true', Bool.not_eq_false', Option.isNone_iff_eq_none, ne_eq, Decidable.not_not, Int.not_lt, Int.not_le] at p71
         have hno : hasE ps (BalV.mk x22.1.frm x22.1.kind x22.1.reg) = false := by simpa using h71
         have hnp : (getP V (balD (openOfK (ls.map BS.l) mk l).2)).isSome = false := by rw [hbal, ← hI.has]; exact hno
         refine T_skip ?_
         refine X_block ?_
         refine X_then ?_
         refine T_seq ?_
         refine T_draw (blk b7 (.cells (BalV.mk x22.1.frm x22.1.kind x22.1.reg).cells 95 (0, 0)) :: blk p (.cells (InstV.mk (KeysV.mk ⟨sa, sc, ls⟩ rt) (ViewV.mk num (mk : Int)) slot (some r3) (some r4) (some r5)).cells 91 (0, 0)) :: H) [(0, true), (1, true), (2, true), (3, true), (4, true), (5, true), (6, false), (7, false)] (by kernel_rfl) (by kernel_rfl) rfl (by kernel_rfl) (Subs.st inferInstance) (fun hns10 => ?_)
         refine DL_q hns10 rfl (Qt_move (.pointer _) rfl) rfl ?_
         refine DL_q hns10 rfl (Qt_nilCheck rfl) rfl ?_
         refine DL_q hns10 rfl (Qt_fieldAddr 6 rfl rfl) rfl ?_
         refine DL_q hns10 rfl (Qt_load1 rfl) rfl ?_
         refine DL_q hns10 rfl (Qt_loadN rfl rfl) rfl ?_
         refine DL_q hns10 rfl (Qt_move (.slice _ _ _) rfl) rfl ?_
         refine DL_e rfl rfl (Ef_call (clone_c (by omega)) rfl (fun x79 => ⟨(Subs.st inferInstance), ?_⟩))
         obtain ⟨f, hfe⟩ := Int.eq_ofNat_of_zero_le hf0.1
         have hf16 : f < 16 := by omega
         have h2f : 2 ^ f < 65536 := Nat.pow_lt_pow_right (by decide) hf16
         have hml : (getE ts (TalV.mk x22.1.kind x22.1.reg x22.1.hash)).getD 0 < 65536 := by rw [hI.ht]; exact hI.lt _
         refine DL_n rfl (Ef_mapUpdate (key := (BalV.mk x22.1.frm x22.1.kind x22.1.reg)) (enc := encB) (ev := BS.val) ((BS.mk x79.a x79.c l)) rfl rfl rfl Tryd.underlying88 (⟨(Subs.st inferInstance), ?_⟩))
         refine DL_nil ?_
         refine X_then ?_
         refine T_seq ?_
         refine T_drawF (blk b5 (.cells x22.1.cells 30 (0, 0)) :: blk p (.cells (InstV.mk (KeysV.mk ⟨sa, sc, ls⟩ rt) (ViewV.mk num (mk : Int)) slot (some r3) (some r4) (some r5)).cells 91 (0, 0)) :: H) (by kernel_rfl) (Subs.st inferInstance) ?_
         refine DLF_q (i := 0) (by kernel_rfl) rfl (by kernel_rfl) (by kernel_rfl) (Qt_move (.pointer _) rfl) rfl ?_
         refine DLF_q (i := 1) (by kernel_rfl) rfl (by kernel_rfl) (by kernel_rfl) (Qt_nilCheck rfl) rfl ?_
         refine DLF_q (i := 2) (by kernel_rfl) rfl (by kernel_rfl) (by kernel_rfl) (Qt_fieldAddr 7 rfl rfl) rfl ?_
         refine DLF_q (i := 3) (by kernel_rfl) rfl (by kernel_rfl) (by kernel_rfl) (Qt_load1 rfl) rfl ?_
         refine DLF_q (i := 4) (by kernel_rfl) rfl (by kernel_rfl) (by kernel_rfl) (Qt_fieldAddr 0 rfl rfl) rfl ?_
         refine DLF_q (i := 5) (by kernel_rfl) rfl (by kernel_rfl) (by kernel_rfl) (Qt_load1 rfl) rfl ?_
         refine DLF_q (i := 6) (by kernel_rfl) rfl (by kernel_rfl) (by kernel_rfl) (Qt_fieldAddr 3 rfl rfl) rfl ?_
         refine DLF_q (i := 7) (by kernel_rfl) rfl (by kernel_rfl) (by kernel_rfl) (Qt_load1 rfl) rfl ?_
         refine DLF_q (i := 8) (by kernel_rfl) rfl (by kernel_rfl) (by kernel_rfl) (Qt_fieldAddr 5 rfl rfl) rfl ?_
         refine DLF_q (i := 9) (by kernel_rfl) rfl (by kernel_rfl) (by kernel_rfl) (Qt_loadN rfl rfl) rfl ?_
         refine DLF_q (i := 10) (by kernel_rfl) rfl (by kernel_rfl) (by kernel_rfl) (Qt_build [(0, (.int .i64 _)), (1, (.int .i64 _)), (2, (.agg _))] rfl (by kernel_rfl)) rfl ?_
         refine DLF_q (i := 12) (by kernel_rfl) rfl (by kernel_rfl) (by kernel_rfl) (Qt_fieldAddr 1 rfl rfl) rfl ?_
         refine DLF_q (i := 13) (by kernel_rfl) rfl (by kernel_rfl) (by kernel_rfl) (Qt_load1 rfl) rfl ?_
         refine DLF_q (i := 14) (by kernel_rfl) rfl (by kernel_rfl) (by kernel_rfl) (Qt_val (Qt_shlN (k := .u16) (a := 1) (m := f) rfl (show Value.int .i64 x22.1.frm = Value.int .i64 (f : Int) from by rw [hfe]) (by show f ≤ 16; omega) (by show 1 * 2 ^ f < 2 ^ 16; omega) rfl) (show Value.int .u16 ((1 * 2 ^ f : Nat) : Int) = Value.int .u16 ((2 ^ f : Nat) : Int) from by rw [Nat.one_mul])) rfl ?_
         refine DLF_2 (i := 11) (j := 16) (by kernel_rfl) ?_ ?_
         ·
          refine DLS_e rfl rfl (Ef_of_Qt (Qt_lookup1 (key := (TalV.mk x22.1.kind x22.1.reg x22.1.hash)) (enc := encT) (ev := encM) ((0 : Nat)) rfl rfl Tryd.underlying89 ((inferInstance : TyZ Tryd.prog 22 (.int .u16 0)).ok)) ⟨(Subs.st inferInstance), ?_⟩)
          try simp only [getE_putK, if_true, Option.getD_some]
          refine DLF_q (i := 15) (by kernel_rfl) rfl (by kernel_rfl) (by kernel_rfl) (Qt_orN rfl rfl rfl (by show _ < 2 ^ 16; omega) (by show _ < 2 ^ 16; omega)) rfl ?_
          refine DLF_1 (i := 16) (by kernel_rfl) ?_
          refine DLS_e rfl rfl (Ef_mapEntry (key := (TalV.mk x22.1.kind x22.1.reg x22.1.hash)) (enc := encT) (ev := encM) (0 : Nat) rfl rfl Tryd.underlying89 ((inferInstance : TyZ Tryd.prog 22 (.int .u16 0)).ok) (⟨(Subs.st inferInstance), ?_⟩))
          refine DLF_q (i := 17) (by kernel_rfl) rfl (by kernel_rfl) (by kernel_rfl) (Qt_extract rfl) rfl ?_
          refine DLF_1 (i := 18) (by kernel_rfl) ?_
          refine DLS_n rfl (Ef_entryStore (key := (TalV.mk x22.1.kind x22.1.reg x22.1.hash)) (enc := encT) (ev := encM) ((getE ts (TalV.mk x22.1.kind x22.1.reg x22.1.hash)).getD 0 ||| 2 ^ f) rfl rfl rfl (putE_goodK hI.gt _ _).born (putE_find _ _ _ _) (⟨(Subs.st inferInstance), ?_⟩))
          refine DLF_nil (by kernel_rfl) ?_
          refine X_then ?_
          refine T_seq ?_
          refine T_region ?_
          refine TL_q (Qt_assign (.int .i64 _) rfl) rfl ?_
          refine TL_nil ?_
          refine X_then ?_
          refine T_ret ?_
          have e : (takeI (ls.map BS.l) num mk slot V l) = (0, V ++ [(x22.1.abs, l)]) := by rw [takeI, if_neg (by omega), if_neg (by omega), if_neg (by omega), if_neg (by omega), if_neg (by rw [hnp]; decide), hx]
          rw [putE_putE]
          have hst := hI.step (o := x22.1.abs) (l := l) (b := (BS.mk x79.a x79.c l)) rfl (by show x22.1.kind ≠ 0; omega) (by show x22.1.view = num; omega) (by show x22.1.slot = slot; omega) (by rw [hx]; exact hnp) hf0 hl
          rw [show x22.1.abs.frm.toNat = f from by show x22.1.frm.toNat = f; omega] at hst
          have hm : (putE ps (BalV.mk x22.1.frm x22.1.kind x22.1.reg) (BS.mk x79.a x79.c l) c).map (·.v) = ps.map (·.v) ++ [(BS.mk x79.a x79.c l)] := by rw [putE_none _ _ _ _ hno]; simp
          refine X_ret (⟨putE ps (BalV.mk x22.1.frm x22.1.kind x22.1.reg) (BS.mk x79.a x79.c l) c, clockE ps (BalV.mk x22.1.frm x22.1.kind x22.1.reg) c, putE ts (TalV.mk x22.1.kind x22.1.reg x22.1.hash) ((getE ts (TalV.mk x22.1.kind x22.1.reg x22.1.hash)).getD 0 ||| 2 ^ f) d, clockE ts (TalV.mk x22.1.kind x22.1.reg x22.1.hash) d, rowFp (BS.val (BS.mk x79.a x79.c l)) ++ fp⟩ : IS) [_] Tryd.results27 ⟨rfl, trivial⟩ (by rw [e]; rfl) (fun w hw => ?_)
          have h1 : St w0 (row (BS.val (BS.mk x79.a x79.c l)) 5 1 (bytesV (BS.l (BS.mk x79.a x79.c l))) :: eachA fp (ps.map (·.v)) :: blk p (.cells (InstV.mk (KeysV.mk ⟨sa, sc, ls⟩ rt) (ViewV.mk num (mk : Int)) slot (some r3) (some r4) (some r5)).cells 91 (0, 0)) :: blk r4 (mapO encB BS.val (putE ps (BalV.mk x22.1.frm x22.1.kind x22.1.reg) (BS.mk x79.a x79.c l) c) (clockE ps (BalV.mk x22.1.frm x22.1.kind x22.1.reg) c)) :: blk r5 (mapO encT encM (putE ts (TalV.mk x22.1.kind x22.1.reg x22.1.hash) ((getE ts (TalV.mk x22.1.kind x22.1.reg x22.1.hash)).getD 0 ||| 2 ^ f) d) (clockE ts (TalV.mk x22.1.kind x22.1.reg x22.1.hash) d)) :: H) w := Subs.st inferInstance w hw
          have h2 := h1.eachAdd
          rw [← hm] at h2
          exact (Subs.st inferInstance w h2 : St w0 (blk p (.cells (InstV.mk (KeysV.mk ⟨sa, sc, ls⟩ rt) (ViewV.mk num (mk : Int)) slot (some r3) (some r4) (some r5)).cells 91 (0, 0)) :: blk r4 (mapO encB BS.val (putE ps (BalV.mk x22.1.frm x22.1.kind x22.1.reg) (BS.mk x79.a x79.c l) c) (clockE ps (BalV.mk x22.1.frm x22.1.kind x22.1.reg) c)) :: blk r5 (mapO encT encM (putE ts (TalV.mk x22.1.kind x22.1.reg x22.1.hash) ((getE ts (TalV.mk x22.1.kind x22.1.reg x22.1.hash)).getD 0 ||| 2 ^ f) d) (clockE ts (TalV.mk x22.1.kind x22.1.reg x22.1.hash) d)) :: eachA (rowFp (BS.val (BS.mk x79.a x79.c l)) ++ fp) (((putE ps (BalV.mk x22.1.frm x22.1.kind x22.1.reg) (BS.mk x79.a x79.c l) c) : PMI).map (·.v)) :: H) w).addPure (by rw [e]; exact hst)
         ·
          refine DLS_e rfl rfl (Ef_mapEntry (key := (TalV.mk x22.1.kind x22.1.reg x22.1.hash)) (enc := encT) (ev := encM) (0 : Nat) rfl rfl Tryd.underlying89 ((inferInstance : TyZ Tryd.prog 22 (.int .u16 0)).ok) (⟨(Subs.st inferInstance), ?_⟩))
          refine DLF_q (i := 17) (by kernel_rfl) rfl (by kernel_rfl) (by kernel_rfl) (Qt_extract rfl) rfl ?_
          refine DLF_1 (i := 11) (by kernel_rfl) ?_
          refine DLS_e rfl rfl (Ef_of_Qt (Qt_lookup1 (key := (TalV.mk x22.1.kind x22.1.reg x22.1.hash)) (enc := encT) (ev := encM) ((0 : Nat)) rfl rfl Tryd.underlying89 ((inferInstance : TyZ Tryd.prog 22 (.int .u16 0)).ok)) ⟨(Subs.st inferInstance), ?_⟩)
          try simp only [getE_putK, if_true, Option.getD_some]
          refine DLF_q (i := 15) (by kernel_rfl) rfl (by kernel_rfl) (by kernel_rfl) (Qt_orN rfl rfl rfl (by show _ < 2 ^ 16; omega) (by show _ < 2 ^ 16; omega)) rfl ?_
          refine DLF_1 (i := 18) (by kernel_rfl) ?_
          refine DLS_n rfl (Ef_entryStore (key := (TalV.mk x22.1.kind x22.1.reg x22.1.hash)) (enc := encT) (ev := encM) ((getE ts (TalV.mk x22.1.kind x22.1.reg x22.1.hash)).getD 0 ||| 2 ^ f) rfl rfl rfl (putE_goodK hI.gt _ _).born (putE_find _ _ _ _) (⟨(Subs.st inferInstance), ?_⟩))
          refine DLF_nil (by kernel_rfl) ?_
          refine X_then ?_
          refine T_seq ?_
          refine T_region ?_
          refine TL_q (Qt_assign (.int .i64 _) rfl) rfl ?_
          refine TL_nil ?_
          refine X_then ?_
          refine T_ret ?_
          have e : (takeI (ls.map BS.l) num mk slot V l) = (0, V ++ [(x22.1.abs, l)]) := by rw [takeI, if_neg (by omega), if_neg (by omega), if_neg (by omega), if_neg (by omega), if_neg (by rw [hnp]; decide), hx]
          rw [putE_putE]
          have hst := hI.step (o := x22.1.abs) (l := l) (b := (BS.mk x79.a x79.c l)) rfl (by show x22.1.kind ≠ 0; omega) (by show x22.1.view = num; omega) (by show x22.1.slot = slot; omega) (by rw [hx]; exact hnp) hf0 hl
          rw [show x22.1.abs.frm.toNat = f from by show x22.1.frm.toNat = f; omega] at hst
          have hm : (putE ps (BalV.mk x22.1.frm x22.1.kind x22.1.reg) (BS.mk x79.a x79.c l) c).map (·.v) = ps.map (·.v) ++ [(BS.mk x79.a x79.c l)] := by rw [putE_none _ _ _ _ hno]; simp
          refine X_ret (⟨putE ps (BalV.mk x22.1.frm x22.1.kind x22.1.reg) (BS.mk x79.a x79.c l) c, clockE ps (BalV.mk x22.1.frm x22.1.kind x22.1.reg) c, putE ts (TalV.mk x22.1.kind x22.1.reg x22.1.hash) ((getE ts (TalV.mk x22.1.kind x22.1.reg x22.1.hash)).getD 0 ||| 2 ^ f) d, clockE ts (TalV.mk x22.1.kind x22.1.reg x22.1.hash) d, rowFp (BS.val (BS.mk x79.a x79.c l)) ++ fp⟩ : IS) [_] Tryd.results27 ⟨rfl, trivial⟩ (by rw [e]; rfl) (fun w hw => ?_)
          have h1 : St w0 (row (BS.val (BS.mk x79.a x79.c l)) 5 1 (bytesV (BS.l (BS.mk x79.a x79.c l))) :: eachA fp (ps.map (·.v)) :: blk p (.cells (InstV.mk (KeysV.mk ⟨sa, sc, ls⟩ rt) (ViewV.mk num (mk : Int)) slot (some r3) (some r4) (some r5)).cells 91 (0, 0)) :: blk r4 (mapO encB BS.val (putE ps (BalV.mk x22.1.frm x22.1.kind x22.1.reg) (BS.mk x79.a x79.c l) c) (clockE ps (BalV.mk x22.1.frm x22.1.kind x22.1.reg) c)) :: blk r5 (mapO encT encM (putE ts (TalV.mk x22.1.kind x22.1.reg x22.1.hash) ((getE ts (TalV.mk x22.1.kind x22.1.reg x22.1.hash)).getD 0 ||| 2 ^ f) d) (clockE ts (TalV.mk x22.1.kind x22.1.reg x22.1.hash) d)) :: H) w := Subs.st inferInstance w hw
          have h2 := h1.eachAdd
          rw [← hm] at h2
          exact (Subs.st inferInstance w h2 : St w0 (blk p (.cells (InstV.mk (KeysV.mk ⟨sa, sc, ls⟩ rt) (ViewV.mk num (mk : Int)) slot (some r3) (some r4) (some r5)).cells 91 (0, 0)) :: blk r4 (mapO encB BS.val (putE ps (BalV.mk x22.1.frm x22.1.kind x22.1.reg) (BS.mk x79.a x79.c l) c) (clockE ps (BalV.mk x22.1.frm x22.1.kind x22.1.reg) c)) :: blk r5 (mapO encT encM (putE ts (TalV.mk x22.1.kind x22.1.reg x22.1.hash) ((getE ts (TalV.mk x22.1.kind x22.1.reg x22.1.hash)).getD 0 ||| 2 ^ f) d) (clockE ts (TalV.mk x22.1.kind x22.1.reg x22.1.hash) d)) :: eachA (rowFp (BS.val (BS.mk x79.a x79.c l)) ++ fp) (((putE ps (BalV.mk x22.1.frm x22.1.kind x22.1.reg) (BS.mk x79.a x79.c l) c) : PMI).map (·.v)) :: H) w).addPure (by rw [e]; exact hst)
    ·
     have p49 := h49
     try simp only [decide_eq_true_eq, decide_eq_false_iff_not, Bool.not_eq_true', Bool.not_eq_false', Option.isNone_iff_eq_none, ne_eq, Decidable.not_not, Int.not_lt, Int.not_le] at p49
     refine TL_pass rfl rfl h49 rfl ?_
     refine TL_pass rfl rfl h49 rfl ?_
     refine TL_pass rfl rfl h49 rfl ?_
     refine TL_q (Qt_pick_f (.bool _) rfl h49 rfl) rfl ?_
     refine TL_q (Qt_assign (.bool _) rfl) rfl ?_
     refine TL_nil ?_
     refine X_then ?_
     refine T_cond_false rfl rfl ?_
     refine T_seq ?_
     refine T_draw (blk b5 (.cells x22.1.cells 30 (0, 0)) :: blk p (.cells (InstV.mk (KeysV.mk ⟨sa, sc, ls⟩ rt) (ViewV.mk num (mk : Int)) slot (some r3) (some r4) (some r5)).cells 91 (0, 0)) :: H) [(0, true), (1, true), (2, true), (3, true), (4, true), (5, true), (6, true), (7, true), (8, true)] (by kernel_rfl) (by kernel_rfl) rfl (by kernel_rfl) (Subs.st inferInstance) (fun hns11 => ?_)
     refine DL_q hns11 rfl (Qt_fieldAddr 2 rfl rfl) rfl ?_
     refine DL_q hns11 rfl (Qt_load1 rfl) rfl ?_
     refine DL_q hns11 rfl (Qt_move (.pointer _) rfl) rfl ?_
     refine DL_q hns11 rfl (Qt_nilCheck rfl) rfl ?_
     refine DL_q hns11 rfl (Qt_fieldAddr 2 rfl rfl) rfl ?_
     refine DL_q hns11 rfl (Qt_fieldAddr 2 rfl rfl) rfl ?_
     refine DL_q hns11 rfl (Qt_load1 rfl) rfl ?_
     refine DL_q hns11 rfl (Qt_neq rfl rfl) rfl ?_
     refine DL_q hns11 rfl (Qt_assign (.bool _) rfl) rfl ?_
     refine DL_nil ?_
     refine X_then ?_
     refine T_cond rfl (fun h54 => ?_) (fun h54 => ?_)
     ·
      have p54 := h54
      try simp only [decide_eq_true_eq, decide_eq_false_iff_not, Bool.not_eq_true', Bool.not_eq_false', Option.isNone_iff_eq_none, ne_eq, Decidable.not_not, Int.not_lt, Int.not_le] at p54
      refine T_seq ?_
      refine T_region ?_
      refine TL_q (Qt_assign (.int .i64 _) rfl) rfl ?_
      refine TL_nil ?_
      refine X_then ?_
      refine T_ret ?_
      refine X_block_ret ?_
      refine X_then_ret ?_
      have e : (takeI (ls.map BS.l) num mk slot V l) = (9, V) := by rw [takeI, if_neg (by omega), if_neg (by omega), if_pos (by rw [← hvw]; simpa using h54)]
      exact X_ret (⟨ps, c, ts, d, fp⟩ : IS) [_] Tryd.results27 ⟨rfl, trivial⟩ (by rw [e]; rfl) (fun w hw => (Subs.st inferInstance w hw : St w0 (blk p (.cells (InstV.mk (KeysV.mk ⟨sa, sc, ls⟩ rt) (ViewV.mk num (mk : Int)) slot (some r3) (some r4) (some r5)).cells 91 (0, 0)) :: blk r4 (mapO encB BS.val ps c) :: blk r5 (mapO encT encM ts d) :: eachA fp ((ps : PMI).map (·.v)) :: H) w).addPure (by rw [e]; exact hI))
     ·
      have p54 := h54
      try simp only [decide_eq_true_eq, decide_eq_false_iff_not, Bool.not_eq_true', Bool.not_eq_false', Option.isNone_iff_eq_none, ne_eq, Decidable.not_not, Int.not_lt, Int.not_le] at p54
      have hvn : (openOfK (ls.map BS.l) mk l).2.view = num := by rw [← hvw]; simpa using h54
      refine T_seq ?_
      refine T_draw (blk b5 (.cells x22.1.cells 30 (0, 0)) :: blk p (.cells (InstV.mk (KeysV.mk ⟨sa, sc, ls⟩ rt) (ViewV.mk num (mk : Int)) slot (some r3) (some r4) (some r5)).cells 91 (0, 0)) :: H) [(0, true), (1, true), (2, true), (3, true), (4, true), (5, true), (6, true), (7, true)] (by kernel_rfl) (by kernel_rfl) rfl (by kernel_rfl) (Subs.st inferInstance) (fun hns12 => ?_)
      refine DL_q hns12 rfl (Qt_fieldAddr 4 rfl rfl) rfl ?_
      refine DL_q hns12 rfl (Qt_load1 rfl) rfl ?_
      refine DL_q hns12 rfl (Qt_move (.pointer _) rfl) rfl ?_
      refine DL_q hns12 rfl (Qt_nilCheck rfl) rfl ?_
      refine DL_q hns12 rfl (Qt_fieldAddr 4 rfl rfl) rfl ?_
      refine DL_q hns12 rfl (Qt_load1 rfl) rfl ?_
      refine DL_q hns12 rfl (Qt_neq rfl rfl) rfl ?_
      refine DL_q hns12 rfl (Qt_assign (.bool _) rfl) rfl ?_
      refine DL_nil ?_
      refine X_then ?_
      refine T_cond rfl (fun h63 => ?_) (fun h63 => ?_)
      ·
       have p63 := h63
       try simp only [decide_eq_true_eq, decide_eq_false_iff_not, Bool.not_eq_true', Bool.not_eq_false', Option.isNone_iff_eq_none, ne_eq, Decidable.not_not, Int.not_lt, Int.not_le] at p63
       refine T_seq ?_
       refine T_region ?_
       refine TL_q (Qt_assign (.int .i64 _) rfl) rfl ?_
       refine TL_nil ?_
       refine X_then ?_
       refine T_ret ?_
       refine X_block_ret ?_
       refine X_then_ret ?_
       have e : (takeI (ls.map BS.l) num mk slot V l) = (8, V) := by rw [takeI, if_neg (by omega), if_neg (by omega), if_neg (by omega), if_pos (by rw [← hsl]; simpa using h63)]
       exact X_ret (⟨ps, c, ts, d, fp⟩ : IS) [_] Tryd.results27 ⟨rfl, trivial⟩ (by rw [e]; rfl) (fun w hw => (Subs.st inferInstance w hw : St w0 (blk p (.cells (InstV.mk (KeysV.mk ⟨sa, sc, ls⟩ rt) (ViewV.mk num (mk : Int)) slot (some r3) (some r4) (some r5)).cells 91 (0, 0)) :: blk r4 (mapO encB BS.val ps c) :: blk r5 (mapO encT encM ts d) :: eachA fp ((ps : PMI).map (·.v)) :: H) w).addPure (by rw [e]; exact hI))
      ·
       have p63 := h63
       try simp only [decide_eq_true_eq, decide_eq_false_iff_not, Bool.not_eq_true', Bool.not_eq_false', Option.isNone_iff_eq_none, ne_eq, Decidable.not_not, Int.not_lt, Int.not_le] at p63
       have hsn : (openOfK (ls.map BS.l) mk l).2.slot = slot := by rw [← hsl]; simpa using h63
       refine T_seq ?_
       refine T_region ?_
       refine TL_q (Qt_move (.bool _) rfl) rfl ?_
       refine TL_q (Qt_assign (.bool _) rfl) rfl ?_
       refine TL_nil ?_
       refine X_then ?_
       refine T_cond rfl (fun h71 => ?_) (fun h71 => ?_)
       ·
        have p71 := h71
        try simp only [decide_eq_true_eq, decide_eq_false_iff_not, Bool.not_eq_true', Bool.not_eq_false', Option.isNone_iff_eq_none, ne_eq, Decidable.not_not, Int.not_lt, Int.not_le] at p71
        refine T_seq ?_
        refine T_region ?_
        refine TL_q (Qt_assign (.int .i64 _) rfl) rfl ?_
        refine TL_nil ?_
        refine X_then ?_
        refine T_ret ?_
        refine X_block_ret ?_
        refine X_then_ret ?_
        have e : (takeI (ls.map BS.l) num mk slot V l) = (7, V) := by rw [takeI, if_neg (by omega), if_neg (by omega), if_neg (by omega), if_neg (by omega), if_pos (by rw [hbal, ← hI.has]; simpa using h71)]
        exact X_ret (⟨ps, c, ts, d, fp⟩ : IS) [_] Tryd.results27 ⟨rfl, trivial⟩ (by rw [e]; rfl) (fun w hw => (Subs.st inferInstance w hw : St w0 (blk p (.cells (InstV.mk (KeysV.mk ⟨sa, sc, ls⟩ rt) (ViewV.mk num (mk : Int)) slot (some r3) (some r4) (some r5)).cells 91 (0, 0)) :: blk r4 (mapO encB BS.val ps c) :: blk r5 (mapO encT encM ts d) :: eachA fp ((ps : PMI).map (·.v)) :: H) w).addPure (by rw [e]; exact hI))
       ·
        have p71 := h71
        try simp only [decide_eq_true_eq, decide_eq_false_iff_not, Bool.not_eq_true', Bool.not_eq_false', Option.isNone_iff_eq_none, ne_eq, Decidable.not_not, Int.not_lt, Int.not_le] at p71
        have hno : hasE ps (BalV.mk x22.1.frm x22.1.kind x22.1.reg) = false := by simpa using h71
        have hnp : (getP V (balD (openOfK (ls.map BS.l) mk l).2)).isSome = false := by rw [hbal, ← hI.has]; exact hno
        refine T_skip ?_
        refine X_block ?_
        refine X_then ?_
        refine T_seq ?_
        refine T_draw (blk b7 (.cells (BalV.mk x22.1.frm x22.1.kind x22.1.reg).cells 95 (0, 0)) :: blk p (.cells (InstV.mk (KeysV.mk ⟨sa, sc, ls⟩ rt) (ViewV.mk num (mk : Int)) slot (some r3) (some r4) (some r5)).cells 91 (0, 0)) :: H) [(0, true), (1, true), (2, true), (3, true), (4, true), (5, true), (6, false), (7, false)] (by kernel_rfl) (by kernel_rfl) rfl (by kernel_rfl) (Subs.st inferInstance) (fun hns13 => ?_)
        refine DL_q hns13 rfl (Qt_move (.pointer _) rfl) rfl ?_
        refine DL_q hns13 rfl (Qt_nilCheck rfl) rfl ?_
        refine DL_q hns13 rfl (Qt_fieldAddr 6 rfl rfl) rfl ?_
        refine DL_q hns13 rfl (Qt_load1 rfl) rfl ?_
        refine DL_q hns13 rfl (Qt_loadN rfl rfl) rfl ?_
        refine DL_q hns13 rfl (Qt_move (.slice _ _ _) rfl) rfl ?_
        refine DL_e rfl rfl (Ef_call (clone_c (by omega)) rfl (fun x79 => ⟨(Subs.st inferInstance), ?_⟩))
        obtain ⟨f, hfe⟩ := Int.eq_ofNat_of_zero_le hf0.1
        have hf16 : f < 16 := by omega
        have h2f : 2 ^ f < 65536 := Nat.pow_lt_pow_right (by decide) hf16
        have hml : (getE ts (TalV.mk x22.1.kind x22.1.reg x22.1.hash)).getD 0 < 65536 := by rw [hI.ht]; exact hI.lt _
        refine DL_n rfl (Ef_mapUpdate (key := (BalV.mk x22.1.frm x22.1.kind x22.1.reg)) (enc := encB) (ev := BS.val) ((BS.mk x79.a x79.c l)) rfl rfl rfl Tryd.underlying88 (⟨(Subs.st inferInstance), ?_⟩))
        refine DL_nil ?_
        refine X_then ?_
        refine T_seq ?_
        refine T_drawF (blk b5 (.cells x22.1.cells 30 (0, 0)) :: blk p (.cells (InstV.mk (KeysV.mk ⟨sa, sc, ls⟩ rt) (ViewV.mk num (mk : Int)) slot (some r3) (some r4) (some r5)).cells 91 (0, 0)) :: H) (by kernel_rfl) (Subs.st inferInstance) ?_
        refine DLF_q (i := 0) (by kernel_rfl) rfl (by kernel_rfl) (by kernel_rfl) (Qt_move (.pointer _) rfl) rfl ?_
        refine DLF_q (i := 1) (by kernel_rfl) rfl (by kernel_rfl) (by kernel_rfl) (Qt_nilCheck rfl) rfl ?_
        refine DLF_q (i := 2) (by kernel_rfl) rfl (by kernel_rfl) (by kernel_rfl) (Qt_fieldAddr 7 rfl rfl) rfl ?_
        refine DLF_q (i := 3) (by kernel_rfl) rfl (by kernel_rfl) (by kernel_rfl) (Qt_load1 rfl) rfl ?_
        refine DLF_q (i := 4) (by kernel_rfl) rfl (by kernel_rfl) (by kernel_rfl) (Qt_fieldAddr 0 rfl rfl) rfl ?_
        refine DLF_q (i := 5) (by kernel_rfl) rfl (by kernel_rfl) (by kernel_rfl) (Qt_load1 rfl) rfl ?_
        refine DLF_q (i := 6) (by kernel_rfl) rfl (by kernel_rfl) (by kernel_rfl) (Qt_fieldAddr 3 rfl rfl) rfl ?_
        refine DLF_q (i := 7) (by kernel_rfl) rfl (by kernel_rfl) (by kernel_rfl) (Qt_load1 rfl) rfl ?_
        refine DLF_q (i := 8) (by kernel_rfl) rfl (by kernel_rfl) (by kernel_rfl) (Qt_fieldAddr 5 rfl rfl) rfl ?_
        refine DLF_q (i := 9) (by kernel_rfl) rfl (by kernel_rfl) (by kernel_rfl) (Qt_loadN rfl rfl) rfl ?_
        refine DLF_q (i := 10) (by kernel_rfl) rfl (by kernel_rfl) (by kernel_rfl) (Qt_build [(0, (.int .i64 _)), (1, (.int .i64 _)), (2, (.agg _))] rfl (by kernel_rfl)) rfl ?_
        refine DLF_q (i := 12) (by kernel_rfl) rfl (by kernel_rfl) (by kernel_rfl) (Qt_fieldAddr 1 rfl rfl) rfl ?_
        refine DLF_q (i := 13) (by kernel_rfl) rfl (by kernel_rfl) (by kernel_rfl) (Qt_load1 rfl) rfl ?_
        refine DLF_q (i := 14) (by kernel_rfl) rfl (by kernel_rfl) (by kernel_rfl) (Qt_val (Qt_shlN (k := .u16) (a := 1) (m := f) rfl (show Value.int .i64 x22.1.frm = Value.int .i64 (f : Int) from by rw [hfe]) (by show f ≤ 16; omega) (by show 1 * 2 ^ f < 2 ^ 16; omega) rfl) (show Value.int .u16 ((1 * 2 ^ f : Nat) : Int) = Value.int .u16 ((2 ^ f : Nat) : Int) from by rw [Nat.one_mul])) rfl ?_
        refine DLF_2 (i := 11) (j := 16) (by kernel_rfl) ?_ ?_
        ·
         refine DLS_e rfl rfl (Ef_of_Qt (Qt_lookup1 (key := (TalV.mk x22.1.kind x22.1.reg x22.1.hash)) (enc := encT) (ev := encM) ((0 : Nat)) rfl rfl Tryd.underlying89 ((inferInstance : TyZ Tryd.prog 22 (.int .u16 0)).ok)) ⟨(Subs.st inferInstance), ?_⟩)
         try simp only [getE_putK, if_true, Option.getD_some]
         refine DLF_q (i := 15) (by kernel_rfl) rfl (by kernel_rfl) (by kernel_rfl) (Qt_orN rfl rfl rfl (by show _ < 2 ^ 16; omega) (by show _ < 2 ^ 16; omega)) rfl ?_
         refine DLF_1 (i := 16) (by kernel_rfl) ?_
         refine DLS_e rfl rfl (Ef_mapEntry (key := (TalV.mk x22.1.kind x22.1.reg x22.1.hash)) (enc := encT) (ev := encM) (0 : Nat) rfl rfl Tryd.underlying89 ((inferInstance : TyZ Tryd.prog 22 (.int .u16 0)).ok) (⟨(Subs.st inferInstance), ?_⟩))
         refine DLF_q (i := 17) (by kernel_rfl) rfl (by kernel_rfl) (by kernel_rfl) (Qt_extract rfl) rfl ?_
         refine DLF_1 (i := 18) (by kernel_rfl) ?_
         refine DLS_n rfl (Ef_entryStore (key := (TalV.mk x22.1.kind x22.1.reg x22.1.hash)) (enc := encT) (ev := encM) ((getE ts (TalV.mk x22.1.kind x22.1.reg x22.1.hash)).getD 0 ||| 2 ^ f) rfl rfl rfl (putE_goodK hI.gt _ _).born (putE_find _ _ _ _) (⟨(Subs.st inferInstance), ?_⟩))
         refine DLF_nil (by kernel_rfl) ?_
         refine X_then ?_
         refine T_seq ?_
         refine T_region ?_
         refine TL_q (Qt_assign (.int .i64 _) rfl) rfl ?_
         refine TL_nil ?_
         refine X_then ?_
         refine T_ret ?_
         have e : (takeI (ls.map BS.l) num mk slot V l) = (0, V ++ [(x22.1.abs, l)]) := by rw [takeI, if_neg (by omega), if_neg (by omega), if_neg (by omega), if_neg (by omega), if_neg (by rw [hnp]; decide), hx]
         rw [putE_putE]
         have hst := hI.step (o := x22.1.abs) (l := l) (b := (BS.mk x79.a x79.c l)) rfl (by show x22.1.kind ≠ 0; omega) (by show x22.1.view = num; omega) (by show x22.1.slot = slot; omega) (by rw [hx]; exact hnp) hf0 hl
         rw [show x22.1.abs.frm.toNat = f from by show x22.1.frm.toNat = f; omega] at hst
         have hm : (putE ps (BalV.mk x22.1.frm x22.1.kind x22.1.reg) (BS.mk x79.a x79.c l) c).map (·.v) = ps.map (·.v) ++ [(BS.mk x79.a x79.c l)] := by rw [putE_none _ _ _ _ hno]; simp
         refine X_ret (⟨putE ps (BalV.mk x22.1.frm x22.1.kind x22.1.reg) (BS.mk x79.a x79.c l) c, clockE ps (BalV.mk x22.1.frm x22.1.kind x22.1.reg) c, putE ts (TalV.mk x22.1.kind x22.1.reg x22.1.hash) ((getE ts (TalV.mk x22.1.kind x22.1.reg x22.1.hash)).getD 0 ||| 2 ^ f) d, clockE ts (TalV.mk x22.1.kind x22.1.reg x22.1.hash) d, rowFp (BS.val (BS.mk x79.a x79.c l)) ++ fp⟩ : IS) [_] Tryd.results27 ⟨rfl, trivial⟩ (by rw [e]; rfl) (fun w hw => ?_)
         have h1 : St w0 (row (BS.val (BS.mk x79.a x79.c l)) 5 1 (bytesV (BS.l (BS.mk x79.a x79.c l))) :: eachA fp (ps.map (·.v)) :: blk p (.cells (InstV.mk (KeysV.mk ⟨sa, sc, ls⟩ rt) (ViewV.mk num (mk : Int)) slot (some r3) (some r4) (some r5)).cells 91 (0, 0)) :: blk r4 (mapO encB BS.val (putE ps (BalV.mk x22.1.frm x22.1.kind x22.1.reg) (BS.mk x79.a x79.c l) c) (clockE ps (BalV.mk x22.1.frm x22.1.kind x22.1.reg) c)) :: blk r5 (mapO encT encM (putE ts (TalV.mk x22.1.kind x22.1.reg x22.1.hash) ((getE ts (TalV.mk x22.1.kind x22.1.reg x22.1.hash)).getD 0 ||| 2 ^ f) d) (clockE ts (TalV.mk x22.1.kind x22.1.reg x22.1.hash) d)) :: H) w := Subs.st inferInstance w hw
         have h2 := h1.eachAdd
         rw [← hm] at h2
         exact (Subs.st inferInstance w h2 : St w0 (blk p (.cells (InstV.mk (KeysV.mk ⟨sa, sc, ls⟩ rt) (ViewV.mk num (mk : Int)) slot (some r3) (some r4) (some r5)).cells 91 (0, 0)) :: blk r4 (mapO encB BS.val (putE ps (BalV.mk x22.1.frm x22.1.kind x22.1.reg) (BS.mk x79.a x79.c l) c) (clockE ps (BalV.mk x22.1.frm x22.1.kind x22.1.reg) c)) :: blk r5 (mapO encT encM (putE ts (TalV.mk x22.1.kind x22.1.reg x22.1.hash) ((getE ts (TalV.mk x22.1.kind x22.1.reg x22.1.hash)).getD 0 ||| 2 ^ f) d) (clockE ts (TalV.mk x22.1.kind x22.1.reg x22.1.hash) d)) :: eachA (rowFp (BS.val (BS.mk x79.a x79.c l)) ++ fp) (((putE ps (BalV.mk x22.1.frm x22.1.kind x22.1.reg) (BS.mk x79.a x79.c l) c) : PMI).map (·.v)) :: H) w).addPure (by rw [e]; exact hst)
        ·
         refine DLS_e rfl rfl (Ef_mapEntry (key := (TalV.mk x22.1.kind x22.1.reg x22.1.hash)) (enc := encT) (ev := encM) (0 : Nat) rfl rfl Tryd.underlying89 ((inferInstance : TyZ Tryd.prog 22 (.int .u16 0)).ok) (⟨(Subs.st inferInstance), ?_⟩))
         refine DLF_q (i := 17) (by kernel_rfl) rfl (by kernel_rfl) (by kernel_rfl) (Qt_extract rfl) rfl ?_
         refine DLF_1 (i := 11) (by kernel_rfl) ?_
         refine DLS_e rfl rfl (Ef_of_Qt (Qt_lookup1 (key := (TalV.mk x22.1.kind x22.1.reg x22.1.hash)) (enc := encT) (ev := encM) ((0 : Nat)) rfl rfl Tryd.underlying89 ((inferInstance : TyZ Tryd.prog 22 (.int .u16 0)).ok)) ⟨(Subs.st inferInstance), ?_⟩)
         try simp only [getE_putK, if_true, Option.getD_some]
         refine DLF_q (i := 15) (by kernel_rfl) rfl (by kernel_rfl) (by kernel_rfl) (Qt_orN rfl rfl rfl (by show _ < 2 ^ 16; omega) (by show _ < 2 ^ 16; omega)) rfl ?_
         refine DLF_1 (i := 18) (by kernel_rfl) ?_
         refine DLS_n rfl (Ef_entryStore (key := (TalV.mk x22.1.kind x22.1.reg x22.1.hash)) (enc := encT) (ev := encM) ((getE ts (TalV.mk x22.1.kind x22.1.reg x22.1.hash)).getD 0 ||| 2 ^ f) rfl rfl rfl (putE_goodK hI.gt _ _).born (putE_find _ _ _ _) (⟨(Subs.st inferInstance), ?_⟩))
         refine DLF_nil (by kernel_rfl) ?_
         refine X_then ?_
         refine T_seq ?_
         refine T_region ?_
         refine TL_q (Qt_assign (.int .i64 _) rfl) rfl ?_
         refine TL_nil ?_
         refine X_then ?_
         refine T_ret ?_
         have e : (takeI (ls.map BS.l) num mk slot V l) = (0, V ++ [(x22.1.abs, l)]) := by rw [takeI, if_neg (by omega), if_neg (by omega), if_neg (by omega), if_neg (by omega), if_neg (by rw [hnp]; decide), hx]
         rw [putE_putE]
         have hst := hI.step (o := x22.1.abs) (l := l) (b := (BS.mk x79.a x79.c l)) rfl (by show x22.1.kind ≠ 0; omega) (by show x22.1.view = num; omega) (by show x22.1.slot = slot; omega) (by rw [hx]; exact hnp) hf0 hl
         rw [show x22.1.abs.frm.toNat = f from by show x22.1.frm.toNat = f; omega] at hst
         have hm : (putE ps (BalV.mk x22.1.frm x22.1.kind x22.1.reg) (BS.mk x79.a x79.c l) c).map (·.v) = ps.map (·.v) ++ [(BS.mk x79.a x79.c l)] := by rw [putE_none _ _ _ _ hno]; simp
         refine X_ret (⟨putE ps (BalV.mk x22.1.frm x22.1.kind x22.1.reg) (BS.mk x79.a x79.c l) c, clockE ps (BalV.mk x22.1.frm x22.1.kind x22.1.reg) c, putE ts (TalV.mk x22.1.kind x22.1.reg x22.1.hash) ((getE ts (TalV.mk x22.1.kind x22.1.reg x22.1.hash)).getD 0 ||| 2 ^ f) d, clockE ts (TalV.mk x22.1.kind x22.1.reg x22.1.hash) d, rowFp (BS.val (BS.mk x79.a x79.c l)) ++ fp⟩ : IS) [_] Tryd.results27 ⟨rfl, trivial⟩ (by rw [e]; rfl) (fun w hw => ?_)
         have h1 : St w0 (row (BS.val (BS.mk x79.a x79.c l)) 5 1 (bytesV (BS.l (BS.mk x79.a x79.c l))) :: eachA fp (ps.map (·.v)) :: blk p (.cells (InstV.mk (KeysV.mk ⟨sa, sc, ls⟩ rt) (ViewV.mk num (mk : Int)) slot (some r3) (some r4) (some r5)).cells 91 (0, 0)) :: blk r4 (mapO encB BS.val (putE ps (BalV.mk x22.1.frm x22.1.kind x22.1.reg) (BS.mk x79.a x79.c l) c) (clockE ps (BalV.mk x22.1.frm x22.1.kind x22.1.reg) c)) :: blk r5 (mapO encT encM (putE ts (TalV.mk x22.1.kind x22.1.reg x22.1.hash) ((getE ts (TalV.mk x22.1.kind x22.1.reg x22.1.hash)).getD 0 ||| 2 ^ f) d) (clockE ts (TalV.mk x22.1.kind x22.1.reg x22.1.hash) d)) :: H) w := Subs.st inferInstance w hw
         have h2 := h1.eachAdd
         rw [← hm] at h2
         exact (Subs.st inferInstance w h2 : St w0 (blk p (.cells (InstV.mk (KeysV.mk ⟨sa, sc, ls⟩ rt) (ViewV.mk num (mk : Int)) slot (some r3) (some r4) (some r5)).cells 91 (0, 0)) :: blk r4 (mapO encB BS.val (putE ps (BalV.mk x22.1.frm x22.1.kind x22.1.reg) (BS.mk x79.a x79.c l) c) (clockE ps (BalV.mk x22.1.frm x22.1.kind x22.1.reg) c)) :: blk r5 (mapO encT encM (putE ts (TalV.mk x22.1.kind x22.1.reg x22.1.hash) ((getE ts (TalV.mk x22.1.kind x22.1.reg x22.1.hash)).getD 0 ||| 2 ^ f) d) (clockE ts (TalV.mk x22.1.kind x22.1.reg x22.1.hash) d)) :: eachA (rowFp (BS.val (BS.mk x79.a x79.c l)) ++ fp) (((putE ps (BalV.mk x22.1.frm x22.1.kind x22.1.reg) (BS.mk x79.a x79.c l) c) : PMI).map (·.v)) :: H) w).addPure (by rw [e]; exact hst)
set_option maxHeartbeats 1000000 in
theorem takeNil_c {w0 : World} {H : List SA} {a : Option Addr} {n c : Nat} :
 CT Tryd.prog w0 (H) 27 [.pointer none, .slice a n c] (α := Unit) (fun _ => .int .i64 16) (fun _ => H) := by
 refine CT_intro Tryd.func27 rfl Tryd.ntmps27 rfl ?_
 refine T_seq ?_
 refine T_region ?_
 refine TL_q (Qt_assign (.int .i64 _) rfl) rfl ?_
 refine TL_nil ?_
 refine X_then ?_
 refine T_seq ?_
 refine T_seq ?_
 refine T_region ?_
 refine TL_q (Qt_move (.pointer _) rfl) rfl ?_
 refine TL_q (Qt_ptr_nil rfl rfl Tryd.underlying55) rfl ?_
 refine TL_nil ?_
 refine X_then ?_
 refine T_cond rfl (fun h11 => ?_) (fun h11 => ?_)
 ·
  have p11 := h11
  try simp only [decide_eq_true_eq, decide_eq_false_iff_not, Bool.not_eq_true', Bool.not_eq_false', Option.isNone_iff_eq_none, ne_eq, Decidable.not_not, Int.not_lt, Int.not_le] at p11
  refine T_seq ?_
  refine T_region ?_
  refine TL_q (Qt_assign (.int .i64 _) rfl) rfl ?_
  refine TL_nil ?_
  refine X_then ?_
  refine T_ret ?_
  refine X_then_ret ?_
  exact X_ret () [_] Tryd.results27 ⟨rfl, trivial⟩ rfl (Subs.st inferInstance)
 ·
  have p11 := h11
  try simp only [decide_eq_true_eq, decide_eq_false_iff_not, Bool.not_eq_true', Bool.not_eq_false', Option.isNone_iff_eq_none, ne_eq, Decidable.not_not, Int.not_lt, Int.not_le] at p11
  cases h11
end Go.Proofs.YtgjkgdjjolnhdaaDoor
