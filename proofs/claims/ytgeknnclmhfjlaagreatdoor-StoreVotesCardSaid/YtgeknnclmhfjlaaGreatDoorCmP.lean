/- Lists of bytes; walks: the references on numbers, texts, digests, and on what is alike. -/
import Derived.Test.YtgeknnclmhfjlaaGreatDoorSgP
import Derived.Test.YtgeknnclmhfjlaaGreatDoorRdP
namespace Go.Proofs.YtgeknnclmhfjlaaGreatDoor
open Go.RowKit Go.Sx
set_option maxRecDepth 100000
set_option linter.unusedSimpArgs false
set_option linter.unusedVariables false
def textB (l : List UInt8) : List UInt8 := packed l.length ++ l
def u64 (k : Int) : Int := IntKind.u64.wrap k
theorem u64_range (k : Int) : 0 ≤ u64 k ∧ u64 k < 18446744073709551616 := by
 simp [u64, IntKind.wrap, IntKind.bits, IntKind.signed]; omega
def texts (l : List (List UInt8)) : List UInt8 := (l.map textB).flatten
theorem texts_snoc (l : List (List UInt8)) (x : List UInt8) : texts (l ++ [x]) = texts l ++ textB x := by simp [texts]
theorem textB_length (l : List UInt8) (h : l.length < 18446744073709551616) : (textB l).length ≤ 10 + l.length := by
 have := packed_length_le l.length h
 simp [textB]; omega
theorem texts_length (n : Nat) : ∀ l : List (List UInt8), (∀ x ∈ l, x.length ≤ n) → n ≤ 2147483647 → (texts l).length ≤ l.length * (10 + n)
 | [], _, _ => by simp [texts]
 | x :: l, h, hn => by
  have h1 := texts_length n l (fun y hy => h y (by simp [hy])) hn
  have h2 := h x (by simp)
  have h3 := textB_length x (by omega)
  simp only [texts, List.map_cons, List.flatten_cons, List.length_append, List.length_cons] at h1 ⊢
  rw [Nat.add_mul, Nat.one_mul]
  omega
def sumLen (l : List (List UInt8)) : Nat := (l.map List.length).sum
theorem texts_cons (x : List UInt8) (l : List (List UInt8)) : texts (x :: l) = textB x ++ texts l := by simp [texts]
theorem take_get {α : Type} (l : List α) (k : Nat) (h : k < l.length) : l.take (k + 1) = l.take k ++ [l[k]] := List.take_succ_eq_append_getElem h
theorem byteOf_eq (a b : UInt8) : ((a.toNat : Int) = (b.toNat : Int)) ↔ a = b := by
 rw [← UInt8.toNat_inj]; omega
theorem sumLen_take (l : List (List UInt8)) (k : Nat) (hk : k < l.length) : sumLen (l.take (k + 1)) = sumLen (l.take k) + l[k].length := by
 rw [take_get _ _ hk]; simp only [sumLen, List.map_append, List.map_cons, List.map_nil, List.sum_append, List.sum_cons, List.sum_nil]; omega
theorem sumLen_le (n : Nat) : ∀ l : List (List UInt8), (∀ x ∈ l, x.length ≤ n) → sumLen l ≤ l.length * n
 | [], _ => by simp [sumLen]
 | x :: l, h => by
  have h1 := sumLen_le n l (fun y hy => h y (by simp [hy]))
  have h2 := h x (by simp)
  simp only [sumLen, List.map_cons, List.sum_cons, List.length_cons] at h1 ⊢
  rw [Nat.add_mul, Nat.one_mul]; omega
theorem le_sumLen : ∀ (l : List (List UInt8)) (x : List UInt8), x ∈ l → x.length ≤ sumLen l
 | y :: l, x, h => by
  simp only [sumLen, List.map_cons, List.sum_cons]
  rcases List.mem_cons.1 h with rfl | h
  · omega
  · have := le_sumLen l x h; simp only [sumLen] at this; omega
theorem take_eq_all {α : Type} {l l2 : List α} {k : Nat} (h : l.take k = l2.take k) (hk : k = l.length) (hl : l.length = l2.length) : l = l2 := by
 subst hk
 rw [List.take_length, hl, List.take_length] at h
 exact h
theorem take_eq_snoc {α : Type} {l l2 : List α} {k : Nat} (h : l.take k = l2.take k) (h1 : k < l.length) (h2 : k < l2.length) (he : l[k] = l2[k]) : l.take (k + 1) = l2.take (k + 1) := by
 rw [take_get _ _ h1, take_get _ _ h2, h, he]
theorem ne_of_get {α : Type} {l l2 : List α} {k : Nat} (h1 : k < l.length) (h2 : k < l2.length) (he : l[k] ≠ l2[k]) : l ≠ l2 := by
 rintro rfl; exact he rfl
theorem any_take_snoc {α : Type} (p : α → Bool) (l : List α) (k : Nat) (hk : k < l.length) (h : (l.take k).any p = false) (he : p l[k] = false) : (l.take (k + 1)).any p = false := by
 rw [take_get _ _ hk, List.any_append, h]; simp [he]
theorem any_of_get {α : Type} (p : α → Bool) (l : List α) (k : Nat) (hk : k < l.length) (he : p l[k] = true) : l.any p = true := List.any_eq_true.2 ⟨l[k], List.getElem_mem hk, he⟩
theorem cell_list {l : List Value} {j : Nat} {u : Value} (h : CellAt l.toArray j u) : l[j]? = some u := by simpa using h.ok

set_option maxHeartbeats 1000000 in
theorem same_c {w0 : World} {H : List SA} {a a2 : Option Addr} {l l2 : List UInt8} {c c2 : Nat} [hr : RdB w0 H (.slice a l.length c) l] [hr2 : RdB w0 H (.slice a2 l2.length c2) l2] (hl : l.length ≤ 4294967296) :
 CT Tryz.prog w0 (H) 42 [.slice a l.length c, .slice a2 l2.length c2] (α := Unit) (fun _ => .bool (decide (l = l2))) (fun _ => H) := by
 refine CT_intro Tryz.func42 rfl Tryz.ntmps42 rfl ?_
 refine T2 (Qab rfl rfl (TX (zS (T2 ?_))))
 refine Qms rfl rfl (zq (zL rfl Tryz.underlying41) rfl (Qms rfl rfl (zq (zL rfl Tryz.underlying41) rfl (zq (Qt_neq rfl rfl) rfl (TX ?_)))))
 refine zC rfl (fun h10 => ?_) (fun h10 => ?_)
 ·
  have p10 := h10
  try simp only [dp] at p10
  refine T2 (Qab rfl rfl (TX (zQ (zr ?_))))
  have he : ¬ l = l2 := fun h => p10 (by rw [h])
  exact zX () [.bool (decide (l = l2))] Tryz.results42 ⟨by simp only [he, decide_false]; rfl, trivial⟩ rfl SB
 have p10 := h10
 try simp only [dp] at p10
 refine zk (zx (zS (T2 ?_)))
 refine Qai rfl rfl (TX (zB ?_))
 have hll : l.length = l2.length := by omega
 refine T_loop [4, 5, 11, 12, 13, 14, 15, 16, 17, 18, 19, 20, 21, 22, 23, 24, 25] [5] (fun vs H' => ∃ k : Nat, vs = [.int .i64 (k : Int)] ∧ H = H' ∧ k ≤ l.length ∧ l.take k = l2.take k) (fun vs => match vs with | .int _ i :: _ => l.length - i.toNat | _ => 0) ⟨0, rfl, rfl, by omega, rfl⟩ SB ?_
 rintro τ0 _ _  ⟨k, rfl, rfl, hk0, hpre⟩ _
 refine zS (T2 ?_)
 refine Qmi rfl rfl (Qms rfl rfl (zq (zL rfl Tryz.underlying41) rfl (zq (Qt_lss rfl rfl) rfl (TX (zC rfl (fun h14 => ?_) (fun h14 => ?_))))))
 ·
  have p14 := h14
  try simp only [dp] at p14
  have hk : k < l.length := by omega
  have hk2 : k < l2.length := by omega
  refine zk (zx (zS (zB (zS ?_))))
  refine T_draw _ [(0, true), (1, true), (2, true), (3, true), (4, true), (5, true), (6, true), (7, true), (8, true)] (by kernel_rfl) (by kernel_rfl) rfl (by kernel_rfl) (fun _ hh => hh) (fun hns0 => ?_)
  refine zd hns0 rfl (zm (.slice _ _ _) rfl) rfl (zd hns0 rfl (zm (.int .i64 _) rfl) rfl (zd hns0 rfl (Qt_indexR rfl rfl (by omega) (by simp; omega)) rfl (zd hns0 rfl (Qt_loadR (.int .u8 (l[k].toNat : Int)) rfl (bytes_get _ _ hk)) rfl (zd hns0 rfl (zm (.slice _ _ _) rfl) rfl (zd hns0 rfl (zm (.int .i64 _) rfl) rfl ?_)))))
  refine zd hns0 rfl (Qt_indexR rfl rfl (by omega) (by simp; omega)) rfl (zd hns0 rfl (Qt_loadR (.int .u8 (l2[k].toNat : Int)) rfl (bytes_get _ _ hk2)) rfl (zd hns0 rfl (Qt_neq rfl rfl) rfl (DL_nil (zx (zC rfl (fun h25 => ?_) (fun h25 => ?_))))))
  ·
   have p25 := h25
   try simp only [dp] at p25
   have hne : l[k] ≠ l2[k] := fun h => p25 (by rw [h])
   have he := ne_of_get hk hk2 hne
   refine T2 (Qab rfl rfl (TX (zQ (zb (zr (X_loop_ret (zb (zr ?_))))))))
   exact zX () [.bool (decide (l = l2))] Tryz.results42 ⟨by simp only [he, decide_false, decide_true]; rfl, trivial⟩ rfl SB
  have p25 := h25
  try simp only [dp] at p25
  have heq : l[k] = l2[k] := (byteOf_eq _ _).1 p25
  refine zk (X_block (zx (zR ?_)))
  refine Qmi rfl rfl (zq (Qt_add rfl rfl (by omega) (by omega)) rfl (Qai rfl rfl (zz (X_loop _ (by repeat (first | with_reducible exact agree_refl | refine agree_upd rfl ?_ | refine agree_mix rfl ?_ | refine agree_setAll rfl ?_)) (⟨k + 1, rfl, rfl, by omega, take_eq_snoc hpre hk hk2 heq⟩) (by show l.length - (k + 1 : Int).toNat < l.length - (k : Int).toNat; omega) (SB)))))
 have p14 := h14
 try simp only [dp] at p14
 have he := take_eq_all hpre (by omega) hll
 refine zY (zG (zW (zE (zx (T2 ?_)))))
 refine Qab rfl rfl (TX (zQ ?_))
 exact zX () [.bool (decide (l = l2))] Tryz.results42 ⟨by simp only [he, decide_false, decide_true]; rfl, trivial⟩ rfl SB
set_option maxHeartbeats 1000000 in
theorem sameParts_c {w0 : World} {H : List SA} {a a2 : Option Addr} {l l2 : List BS} {c c2 : Nat} [hr : RdC w0 H (.slice a l.length c) 1 (l.map BS.val)] [re : RdE w0 H l] [hr2 : RdC w0 H (.slice a2 l2.length c2) 1 (l2.map BS.val)] [re2 : RdE w0 H l2] (hl : l.length ≤ 4294967296) (he1 : ∀ x ∈ l, x.l.length ≤ 4294967296) :
 CT Tryz.prog w0 (H) 43 [.slice a l.length c, .slice a2 l2.length c2] (α := Unit) (fun _ => .bool (decide (l.map BS.l = l2.map BS.l))) (fun _ => H) := by
 refine CT_intro Tryz.func43 rfl Tryz.ntmps43 rfl ?_
 refine T2 (Qab rfl rfl (TX (zS (T2 ?_))))
 refine Qms rfl rfl (zq (zL rfl Tryz.underlying42) rfl (Qms rfl rfl (zq (zL rfl Tryz.underlying42) rfl (zq (Qt_neq rfl rfl) rfl (TX ?_)))))
 refine zC rfl (fun h10 => ?_) (fun h10 => ?_)
 ·
  have p10 := h10
  try simp only [dp] at p10
  refine T2 (Qab rfl rfl (TX (zQ (zr ?_))))
  have he : ¬ l.map BS.l = l2.map BS.l := fun h => p10 (by have := congrArg List.length h; simp at this; omega)
  exact zX () [.bool (decide (l.map BS.l = l2.map BS.l))] Tryz.results43 ⟨by simp only [he, decide_false]; rfl, trivial⟩ rfl SB
 have p10 := h10
 try simp only [dp] at p10
 refine zk (zx (zS (T2 ?_)))
 refine Qai rfl rfl (TX (zB ?_))
 have hll : (l.map BS.l).length = (l2.map BS.l).length := by simp; omega
 refine T_loop [4, 5, 11, 12, 13, 14, 15, 16, 17, 18, 19, 20, 21, 22, 23, 24, 25, 26] [5] (fun vs H' => ∃ k : Nat, vs = [.int .i64 (k : Int)] ∧ H = H' ∧ k ≤ l.length ∧ (l.map BS.l).take k = (l2.map BS.l).take k) (fun vs => match vs with | .int _ i :: _ => l.length - i.toNat | _ => 0) ⟨0, rfl, rfl, by omega, rfl⟩ SB ?_
 rintro τ0 _ _  ⟨k, rfl, rfl, hk0, hpre⟩ _
 refine zS (T2 ?_)
 refine Qmi rfl rfl (Qms rfl rfl (zq (zL rfl Tryz.underlying42) rfl (zq (Qt_lss rfl rfl) rfl (TX (zC rfl (fun h14 => ?_) (fun h14 => ?_))))))
 ·
  have p14 := h14
  try simp only [dp] at p14
  have hk : k < l.length := by omega
  have hk2 : k < l2.length := by simp at hll; omega
  have : RdB w0 H (.slice l[k].a l[k].l.length l[k].c) l[k].l := re.get (List.getElem_mem hk)
  have : RdB w0 H (.slice l2[k].a l2[k].l.length l2[k].c) l2[k].l := re2.get (List.getElem_mem hk2)
  refine zk (zx (zS (zB (zS ?_))))
  refine T_draw _ [(0, true), (1, true), (2, true), (3, true), (4, true), (5, true), (6, true), (7, true), (8, false), (9, true)] (by kernel_rfl) (by kernel_rfl) rfl (by kernel_rfl) (fun _ hh => hh) (fun hns0 => ?_)
  refine zd hns0 rfl (zm (.slice _ _ _) rfl) rfl (zd hns0 rfl (zm (.int .i64 _) rfl) rfl (zd hns0 rfl (Qt_indexR rfl rfl (by omega) (by simp; omega)) rfl (zd hns0 rfl (Qt_loadR (.slice _ _ _) rfl (vals_get _ _ hk)) rfl (zd hns0 rfl (zm (.slice _ _ _) rfl) rfl (zd hns0 rfl (zm (.int .i64 _) rfl) rfl ?_)))))
  refine zd hns0 rfl (Qt_indexR rfl rfl (by omega) (by simp; omega)) rfl (zd hns0 rfl (Qt_loadR (.slice _ _ _) rfl (vals_get _ _ hk2)) rfl ?_)
  refine DL_e rfl rfl (zc (same_c (he1 _ (List.getElem_mem hk))) rfl (fun x25 => ⟨SB, ?_⟩))
  refine zd hns0 rfl (Qt_not rfl) rfl (DL_nil (zx (zC rfl (fun h26 => ?_) (fun h26 => ?_))))
  ·
   have p26 := h26
   try simp only [dp] at p26
   have hne : l[k].l ≠ l2[k].l := by simpa using p26
   have he := ne_of_get (l := l.map BS.l) (l2 := l2.map BS.l) (k := k) (by simpa using hk) (by simpa using hk2) (by simpa using hne)
   refine T2 (Qab rfl rfl (TX (zQ (zb (zr (X_loop_ret (zb (zr ?_))))))))
   exact zX () [.bool (decide (l.map BS.l = l2.map BS.l))] Tryz.results43 ⟨by simp only [he, decide_false, decide_true]; rfl, trivial⟩ rfl SB
  have p26 := h26
  try simp only [dp] at p26
  have heq : l[k].l = l2[k].l := by simpa using p26
  refine zk (X_block (zx (zR ?_)))
  refine Qmi rfl rfl (zq (Qt_add rfl rfl (by omega) (by omega)) rfl (Qai rfl rfl (zz (X_loop _ (by repeat (first | with_reducible exact agree_refl | refine agree_upd rfl ?_ | refine agree_mix rfl ?_ | refine agree_setAll rfl ?_)) (⟨k + 1, rfl, rfl, by omega, take_eq_snoc hpre (by simpa using hk) (by simpa using hk2) (by simpa using heq)⟩) (by show l.length - (k + 1 : Int).toNat < l.length - (k : Int).toNat; omega) (SB)))))
 have p14 := h14
 try simp only [dp] at p14
 have he := take_eq_all hpre (by simp; omega) hll
 refine zY (zG (zW (zE (zx (T2 ?_)))))
 refine Qab rfl rfl (TX (zQ ?_))
 exact zX () [.bool (decide (l.map BS.l = l2.map BS.l))] Tryz.results43 ⟨by simp only [he, decide_false, decide_true]; rfl, trivial⟩ rfl SB
theorem rem_nat (x k : Nat) : (x : Int).tmod (k : Int) = ((x % k : Nat) : Int) := by rw [Int.ofNat_tmod]
end Go.Proofs.YtgeknnclmhfjlaaGreatDoor
