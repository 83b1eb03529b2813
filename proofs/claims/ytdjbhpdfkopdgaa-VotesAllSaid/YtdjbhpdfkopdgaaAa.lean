/- The law VotesAll in plain terms: sorted keys are the grid; the votes that a book tells make it anew. -/
import Derived.Test.YtdjbhpdfkopdgaaBt
namespace Go.Proofs.Ytdjbhpdfkopdgaa
open Go.RowKit Go.Sx
set_option maxRecDepth 100000
set_option linter.unusedSimpArgs false
set_option linter.unusedVariables false
def keyLt (a b : EraV) : Prop := a.view < b.view ∨ (a.view = b.view ∧ a.reg < b.reg)
theorem keyLt_irrefl (a : EraV) : ¬ keyLt a a := by unfold keyLt; omega
theorem keyLt_asymm {a b : EraV} (h : keyLt a b) : ¬ keyLt b a := by unfold keyLt at *; omega
theorem sorted_ext {α : Type} {lt : α → α → Prop} (hi : ∀ a, ¬ lt a a) (ha : ∀ a b, lt a b → ¬ lt b a) : ∀ (l m : List α), l.Pairwise lt → m.Pairwise lt → (∀ a, a ∈ l ↔ a ∈ m) → l = m
  | [], [], _, _, _ => rfl
  | [], b :: m, _, _, h => absurd ((h b).2 (by simp)) (by simp)
  | a :: l, [], _, _, h => absurd ((h a).1 (by simp)) (by simp)
  | a :: l, b :: m, h1, h2, h => by
    have h1' := List.pairwise_cons.1 h1
    have h2' := List.pairwise_cons.1 h2
    have e : a = b := by
      rcases List.mem_cons.1 ((h a).1 (by simp)) with e | e
      · exact e
      · rcases List.mem_cons.1 ((h b).2 (by simp)) with e2 | e2
        · exact e2.symm
        · exact absurd (h2'.1 a e) (ha _ _ (h1'.1 b e2))
    subst e
    congr 1
    refine sorted_ext hi ha l m h1'.2 h2'.2 (fun x => ⟨fun hx => ?_, fun hx => ?_⟩)
    · rcases List.mem_cons.1 ((h x).1 (List.mem_cons_of_mem _ hx)) with e | e
      · subst e; exact absurd (h1'.1 _ hx) (hi _)
      · exact e
    · rcases List.mem_cons.1 ((h x).2 (List.mem_cons_of_mem _ hx)) with e | e
      · subst e; exact absurd (h2'.1 _ hx) (hi _)
      · exact e
/-- All eras that may be, in order. -/
def rowG (v n : Nat) : List EraV := (List.range n).map fun r : Nat => ⟨(v : Int), (r : Int)⟩
def gridN (n : Nat) : List EraV := (List.range n).flatMap fun v : Nat => rowG v 41
def grid : List EraV := gridN 61
theorem rowG_succ (v n : Nat) : rowG v (n + 1) = rowG v n ++ [⟨(v : Int), (n : Int)⟩] := by simp [rowG, List.range_succ]
theorem gridN_succ (n : Nat) : gridN (n + 1) = gridN n ++ rowG n 41 := by simp [gridN, List.range_succ]
theorem rowG_len (v n : Nat) : (rowG v n).length = n := by simp [rowG]
theorem gridN_len : ∀ n : Nat, (gridN n).length = n * 41
  | 0 => rfl
  | n + 1 => by rw [gridN_succ, List.length_append, gridN_len n, rowG_len]; omega
theorem mem_grid (a : EraV) : a ∈ grid ↔ (0 ≤ a.view ∧ a.view ≤ 60) ∧ (0 ≤ a.reg ∧ a.reg ≤ 40) := by
  simp only [grid, gridN, rowG, List.mem_flatMap, List.mem_range, List.mem_map]
  constructor
  · rintro ⟨v, hv, r, hr, rfl⟩
    exact ⟨⟨by show (0 : Int) ≤ (v : Int); omega, by show (v : Int) ≤ 60; omega⟩, ⟨by show (0 : Int) ≤ (r : Int); omega, by show (r : Int) ≤ 40; omega⟩⟩
  · rintro ⟨⟨h1, h2⟩, h3, h4⟩
    refine ⟨a.view.toNat, by omega, a.reg.toNat, by omega, ?_⟩
    cases a
    simp only [EraV.mk.injEq] at *
    omega
theorem row_sorted (v n : Nat) : (rowG v n).Pairwise keyLt := by
  induction n with
  | zero => simp [rowG]
  | succ n ih =>
    rw [rowG_succ, List.pairwise_append]
    refine ⟨ih, by simp, fun a ha b hb => ?_⟩
    obtain rfl : b = _ := by simpa using hb
    simp only [rowG, List.mem_map, List.mem_range] at ha
    obtain ⟨r, hr, rfl⟩ := ha
    exact .inr ⟨rfl, by show (r : Int) < (n : Int); omega⟩
theorem gridN_sorted (n : Nat) : (gridN n).Pairwise keyLt := by
  induction n with
  | zero => simp [gridN]
  | succ n ih =>
    rw [gridN_succ, List.pairwise_append]
    refine ⟨ih, row_sorted _ _, fun a ha b hb => ?_⟩
    simp only [gridN, rowG, List.mem_flatMap, List.mem_range, List.mem_map] at ha hb
    obtain ⟨v, hv, r, hr, rfl⟩ := ha
    obtain ⟨q, hq, rfl⟩ := hb
    exact .inl (by show (v : Int) < (n : Int); omega)
theorem grid_sorted : grid.Pairwise keyLt := gridN_sorted 61
/-- The vote that tells a regency. -/
def regV (p : Int × Int) : VoteV := { VoteV.zero with kind := 1, view := p.1, reg := p.2 }
def regP (l : List VoteV) : List VoteV := if 0 ≤ (regL l).1 then [regV (regL l)] else []
def allL (l : List VoteV) : List VoteV := regP l ++ (grid.filterMap (wroteL l) ++ (accL l).toList)
def Came (l : List VoteV) : Prop := ∀ v ∈ l, (putV v.abs).2 = 0
theorem wroteL_spec {l : List VoteV} {a : EraV} {v : VoteV} (h : wroteL l a = some v) : v ∈ l ∧ v.kind = 2 ∧ v.slot = slotL l ∧ v.view = a.view ∧ v.reg = a.reg := by
  have h1 := List.mem_of_find?_eq_some h
  have h2 := List.find?_some h
  simp only [isW, Bool.and_eq_true, decide_eq_true_eq] at h2
  exact ⟨h1, h2.1.1.1, h2.1.1.2, h2.1.2, h2.2⟩
theorem accS_spec (s : Int) : ∀ (l : List VoteV) (o : Option VoteV) (u : VoteV), l.foldl (accS s) o = some u → o = some u ∨ (u ∈ l ∧ u.kind = 3 ∧ u.slot = s)
  | [], o, u, h => .inl h
  | v :: l, o, u, h => by
    rcases accS_spec s l (accS s o v) u h with h1 | h1
    · unfold accS at h1
      split at h1
      · exact .inl h1
      · rename_i hn
        have hk : v.kind = 3 ∧ v.slot = s := by omega
        cases o with
        | none =>
          obtain rfl : v = u := by simpa using h1
          exact .inr ⟨by simp, hk⟩
        | some q =>
          simp only at h1
          split at h1
          · obtain rfl : v = u := by simpa using h1
            exact .inr ⟨by simp, hk⟩
          · exact .inl h1
    · exact .inr ⟨List.mem_cons_of_mem _ h1.1, h1.2⟩
theorem accL_spec {l : List VoteV} {u : VoteV} (h : accL l = some u) : u ∈ l ∧ u.kind = 3 ∧ u.slot = slotL l := by
  rcases accS_spec _ l none u h with h1 | h1
  · cases h1
  · exact h1
theorem accS_some (s : Int) : ∀ (l : List VoteV) (o : Option VoteV), (o.isSome = true ∨ ∃ u ∈ l, u.kind = 3 ∧ u.slot = s) → (l.foldl (accS s) o).isSome = true
  | [], o, h => by
    rcases h with h | ⟨u, hu, -⟩
    · exact h
    · cases hu
  | v :: l, o, h => by
    refine accS_some s l (accS s o v) ?_
    by_cases hv : v.kind = 3 ∧ v.slot = s
    · left
      unfold accS
      rw [if_neg (by omega)]
      cases o with
      | none => rfl
      | some q => simp only; split <;> rfl
    · rcases h with h | ⟨u, hu, hk⟩
      · left
        unfold accS
        rw [if_pos (by omega)]
        exact h
      · rcases List.mem_cons.1 hu with rfl | hu
        · exact absurd hk hv
        · exact .inr ⟨u, hu, hk⟩
theorem came_grid {l : List VoteV} (hc : Came l) {a : EraV} (h : (wroteL l a).isSome = true) : a ∈ grid := by
  obtain ⟨v, hv⟩ := Option.isSome_iff_exists.1 h
  obtain ⟨hm, -, -, h1, h2⟩ := wroteL_spec hv
  obtain ⟨-, -, hvw, hrg, -⟩ := (formed_spec _).1 (formed_of_put (hc v hm))
  have hvw : 0 ≤ v.view ∧ v.view ≤ 60 := hvw
  have hrg : 0 ≤ v.reg ∧ v.reg ≤ 40 := hrg
  rw [mem_grid]
  omega
theorem filterMap_sorted {f : EraV → Option VoteV} (g : List EraV) : (g.filter fun a => (f a).isSome).map (fun a => (f a).getD VoteV.zero) = g.filterMap f := by
  induction g with
  | nil => rfl
  | cons a g ih =>
    cases h : f a with
    | none => simp [h, ih]
    | some v => simp [h, ih]
/-- The sorted keys of what was written are the grid's. -/
theorem keys_grid {l : List VoteV} (hc : Came l) {ks : List EraV} (hs : ks.Pairwise keyLt) (hm : ∀ a, a ∈ ks ↔ (wroteL l a).isSome = true) : ks = grid.filter fun a => (wroteL l a).isSome :=
  sorted_ext keyLt_irrefl (fun _ _ => keyLt_asymm) _ _ hs (grid_sorted.filter _) (fun a => by
    rw [hm, List.mem_filter]
    exact ⟨fun h => ⟨came_grid hc h, h⟩, fun h => h.2⟩)
theorem keys_votes {l : List VoteV} (hc : Came l) {ks : List EraV} (hs : ks.Pairwise keyLt) (hm : ∀ a, a ∈ ks ↔ (wroteL l a).isSome = true) : ks.map (fun a => (wroteL l a).getD VoteV.zero) = grid.filterMap (wroteL l) := by
  rw [keys_grid hc hs hm, filterMap_sorted]
theorem slotL_hit : ∀ (l : List VoteV) (n : Int), n < l.foldl slotS n → ∃ v ∈ l, 1 < v.kind ∧ v.slot = l.foldl slotS n
  | [], n, h => absurd h (by simp)
  | v :: l, n, h => by
    rw [List.foldl_cons] at h ⊢
    by_cases hl : slotS n v < l.foldl slotS (slotS n v)
    · obtain ⟨u, hu, h1⟩ := slotL_hit l _ hl
      exact ⟨u, List.mem_cons_of_mem _ hu, h1⟩
    · have h2 := (slot_grow l (slotS n v)).1
      have e : l.foldl slotS (slotS n v) = slotS n v := by omega
      rw [e] at h ⊢
      unfold slotS at h ⊢
      split at h
      · rename_i hk; rw [if_pos hk]; exact ⟨v, by simp, hk.1, rfl⟩
      · omega
theorem slotL_nonneg (l : List VoteV) : 0 ≤ slotL l := (slot_grow l 0).1
theorem slotL_le {S : Int} : ∀ (l : List VoteV) (n : Int), n ≤ S → (∀ v ∈ l, 1 < v.kind → v.slot ≤ S) → l.foldl slotS n ≤ S
  | [], _, h, _ => h
  | v :: l, n, h, hl => by
    rw [List.foldl_cons]
    refine slotL_le l _ ?_ (fun u hu => hl u (by simp [hu]))
    unfold slotS; split
    · rename_i hk; exact hl v (by simp) hk.1
    · exact h
/-- Of the votes that are told. -/
theorem all_mem {l : List VoteV} {v : VoteV} (h : v ∈ allL l) : (0 ≤ (regL l).1 ∧ v = regV (regL l)) ∨ (v ∈ l ∧ v.kind = 2 ∧ v.slot = slotL l ∧ wroteL l ⟨v.view, v.reg⟩ = some v) ∨ (v ∈ l ∧ v.kind = 3 ∧ v.slot = slotL l ∧ accL l = some v) := by
  unfold allL at h
  rcases List.mem_append.1 h with h | h
  · left
    unfold regP at h
    split at h
    · exact ⟨by assumption, by simpa using h⟩
    · cases h
  · rcases List.mem_append.1 h with h | h
    · right; left
      obtain ⟨a, -, ha⟩ := List.mem_filterMap.1 h
      obtain ⟨h1, h2, h3, h4, h5⟩ := wroteL_spec ha
      refine ⟨h1, h2, h3, ?_⟩
      rw [h4, h5]
      exact ha
    · right; right
      have h := Option.mem_toList.1 h
      obtain ⟨h1, h2, h3⟩ := accL_spec h
      exact ⟨h1, h2, h3, h⟩
theorem reg_hit : ∀ (l : List VoteV) (p : Int × Int), l.foldl regS p = p ∨ ∃ v ∈ l, v.kind = 1 ∧ l.foldl regS p = (v.view, v.reg)
  | [], _ => .inl rfl
  | v :: l, p => by
    rw [List.foldl_cons]
    rcases reg_hit l (regS p v) with h | ⟨u, hu, h⟩
    · rw [h]
      unfold regS
      split
      · rename_i hk; exact .inr ⟨v, by simp, hk.1, rfl⟩
      · exact .inl rfl
    · exact .inr ⟨u, List.mem_cons_of_mem _ hu, h⟩
theorem put_reg {p : Int × Int} (h : (0 ≤ p.1 ∧ p.1 ≤ 60) ∧ (0 ≤ p.2 ∧ p.2 ≤ 40)) : (putV (regV p).abs).2 = 0 := by
  have hf : formedB (regV p).abs = true := (formed_spec _).2 ⟨by simp [regV, VoteV.abs], by simp [regV, VoteV.abs], h.1, h.2, by simp [regV, VoteV.abs, VoteV.zero], fun _ => ⟨rfl, rfl, rfl⟩, fun _ => rfl⟩
  have hl : (told (regV p).abs).length ≤ 65536 := by
    have h := packed_length_le 0 (by omega)
    simp [told, head, texts, textB, pre3_length, regV, VoteV.abs, VoteV.zero]; omega
  unfold putV
  rw [if_neg (by simp [regV, VoteV.abs, VoteV.zero]), if_neg (by simp [regV, VoteV.abs, VoteV.zero, sumLen]), if_neg (by omega), if_pos hf]
theorem all_put {l : List VoteV} (hc : Came l) : Came (allL l) := fun v hv => by
  rcases all_mem hv with ⟨h0, rfl⟩ | ⟨h, -⟩ | ⟨h, -⟩
  · refine put_reg ?_
    rcases reg_hit l (-1, -1) with h | ⟨u, hu, hk, h⟩
    · have h : regL l = (-1, -1) := h
      rw [h] at h0; exact absurd h0 (by decide)
    · have h : regL l = (u.view, u.reg) := h
      obtain ⟨-, -, hvw, hrg, -⟩ := (formed_spec _).1 (formed_of_put (hc u hu))
      rw [h]; exact ⟨hvw, hrg⟩
  · exact hc v h
  · exact hc v h
theorem all_slot {l : List VoteV} {v : VoteV} (hv : v ∈ allL l) : 1 < v.kind → v.slot = slotL l := fun hk => by
  rcases all_mem hv with ⟨h0, rfl⟩ | ⟨-, -, h, -⟩ | ⟨-, -, h, -⟩
  · exact absurd hk (by simp [regV])
  · exact h
  · exact h
/-- Each is kept, behind those ahead of it. -/
theorem all_take {l : List VoteV} (hc : Came l) (k : Nat) (hk : k < (allL l).length) : takeL ((allL l).take k) (allL l)[k] = 0 := by
  have hm := List.getElem_mem hk
  unfold takeL
  rw [if_neg (by simpa using all_put hc _ hm), if_neg]
  rintro ⟨h1, h2⟩
  have h3 := all_slot hm h1
  have h4 : slotL ((allL l).take k) ≤ slotL l := slotL_le _ _ (slotL_nonneg l) (fun v hv hk => by rw [all_slot (List.mem_of_mem_take hv) hk]; exact Int.le_refl _)
  omega
theorem reg_skips : ∀ (l : List VoteV) (p : Int × Int), (∀ v ∈ l, v.kind ≠ 1) → l.foldl regS p = p
  | [], _, _ => rfl
  | v :: l, p, h => by rw [List.foldl_cons, reg_skip (h v (by simp))]; exact reg_skips l p (fun u hu => h u (by simp [hu]))
theorem rest_kinds {l : List VoteV} {v : VoteV} (h : v ∈ grid.filterMap (wroteL l) ++ (accL l).toList) : v.kind ≠ 1 ∧ 1 < v.kind ∧ v.slot = slotL l := by
  rcases List.mem_append.1 h with h | h
  · obtain ⟨a, -, ha⟩ := List.mem_filterMap.1 h
    obtain ⟨-, h2, h3, -⟩ := wroteL_spec ha
    exact ⟨by omega, by omega, h3⟩
  · obtain ⟨-, h2, h3⟩ := accL_spec (Option.mem_toList.1 h)
    exact ⟨by omega, by omega, h3⟩
theorem all_reg (l : List VoteV) : regL (allL l) = if 0 ≤ (regL l).1 then regL l else (-1, -1) := by
  unfold allL
  show (regP l ++ _).foldl regS (-1, -1) = _
  rw [List.foldl_append, reg_skips _ _ (fun v hv => (rest_kinds hv).1)]
  unfold regP
  split
  · rename_i h
    show regS (-1, -1) (regV (regL l)) = regL l
    unfold regS
    rw [if_pos ⟨rfl, .inl (by show -1 < (regL l).1; omega)⟩]
    rfl
  · rfl
theorem all_slotL {l : List VoteV} (hc : Came l) : slotL (allL l) = slotL l := by
  have h1 : slotL (allL l) ≤ slotL l := slotL_le _ _ (slotL_nonneg l) (fun v hv hk => by rw [all_slot hv hk]; exact Int.le_refl _)
  have h0 := slotL_nonneg (allL l)
  by_cases hp : 0 < slotL l
  · obtain ⟨v, hv, hk, hs⟩ := slotL_hit l 0 hp
    have hs : v.slot = slotL l := hs
    have key : ∃ u ∈ allL l, 1 < u.kind := by
      have hf := (formed_spec _).1 (formed_of_put (hc v hv))
      have hk3 : v.kind ≤ 3 := hf.2.1
      by_cases h2 : v.kind = 2
      · have hw : (wroteL l ⟨v.view, v.reg⟩).isSome = true := by
          unfold wroteL
          rw [List.find?_isSome]
          exact ⟨v, hv, by simp [isW, h2, hs]⟩
        obtain ⟨u, hu⟩ := Option.isSome_iff_exists.1 hw
        refine ⟨u, ?_, by have := (wroteL_spec hu).2.1; omega⟩
        unfold allL
        exact List.mem_append_right _ (List.mem_append_left _ (List.mem_filterMap.2 ⟨_, came_grid hc hw, hu⟩))
      · have ha : (accL l).isSome = true := accS_some _ l none (.inr ⟨v, hv, by omega, hs⟩)
        obtain ⟨u, hu⟩ := Option.isSome_iff_exists.1 ha
        refine ⟨u, ?_, by have := (accL_spec hu).2.1; omega⟩
        unfold allL
        exact List.mem_append_right _ (List.mem_append_right _ (Option.mem_toList.2 hu))
    obtain ⟨u, hu, huk⟩ := key
    have h2 := (slot_grow (allL l) 0).2 u hu huk
    have h3 : slotL (allL l) = (allL l).foldl slotS 0 := rfl
    have h4 := all_slot hu huk
    omega
  · have := slotL_nonneg l
    omega
theorem acc_skips (s : Int) : ∀ (l : List VoteV) (o : Option VoteV), (∀ v ∈ l, v.kind ≠ 3) → l.foldl (accS s) o = o
  | [], _, _ => rfl
  | v :: l, o, h => by
    rw [List.foldl_cons, show accS s o v = o from if_pos (.inl (h v (by simp)))]
    exact acc_skips s l o (fun u hu => h u (by simp [hu]))
theorem all_acc {l : List VoteV} (hc : Came l) : accL (allL l) = accL l := by
  show (allL l).foldl (accS (slotL (allL l))) none = accL l
  rw [all_slotL hc]
  unfold allL
  rw [← List.append_assoc, List.foldl_append, acc_skips _ (regP l ++ grid.filterMap (wroteL l))]
  · show (accL l).toList.foldl _ none = accL l
    cases h : accL l with
    | none => rfl
    | some u =>
      obtain ⟨-, h2, h3⟩ := accL_spec h
      show accS (slotL l) none u = some u
      unfold accS
      rw [if_neg (by omega)]
  · intro v hv
    rcases List.mem_append.1 hv with hv | hv
    · unfold regP at hv
      split at hv
      · obtain rfl : v = _ := by simpa using hv
        simp [regV]
      · cases hv
    · obtain ⟨a, -, ha⟩ := List.mem_filterMap.1 hv
      have := (wroteL_spec ha).2.1
      omega
theorem find_filterMap {f : EraV → Option VoteV} {p : VoteV → Bool} {a : EraV} (hp : ∀ b u, f b = some u → p u = decide (b = a)) : ∀ g : List EraV, (g.filterMap f).find? p = if a ∈ g then f a else none
  | [] => by simp
  | b :: g => by
    have ih := find_filterMap hp g
    cases h : f b with
    | none =>
      rw [List.filterMap_cons_none h, ih]
      by_cases hb : a = b
      · subst hb; simp [h]
      · simp [hb]
    | some u =>
      rw [List.filterMap_cons_some h, List.find?_cons, hp b u h]
      by_cases hb : b = a
      · subst hb; simp [h]
      · have hb' : ¬ a = b := fun e => hb e.symm
        simp only [hb, decide_false, ih, List.mem_cons, hb', false_or]
theorem all_wrote {l : List VoteV} (hc : Came l) (a : EraV) : wroteL (allL l) a = wroteL l a := by
  show (allL l).find? (isW (slotL (allL l)) a) = _
  rw [all_slotL hc]
  unfold allL
  rw [List.find?_append, List.find?_append]
  have h1 : (regP l).find? (isW (slotL l) a) = none := by
    rw [List.find?_eq_none]
    intro v hv
    unfold regP at hv
    split at hv
    · obtain rfl : v = _ := by simpa using hv
      simp [isW, regV]
    · cases hv
  have h2 : (accL l).toList.find? (isW (slotL l) a) = none := by
    rw [List.find?_eq_none]
    intro v hv
    have := (accL_spec (Option.mem_toList.1 hv)).2.1
    simp [isW, this]
  have h3 : (grid.filterMap (wroteL l)).find? (isW (slotL l) a) = if a ∈ grid then wroteL l a else none :=
    find_filterMap (fun b u hu => by
      obtain ⟨-, e1, e2, e3, e4⟩ := wroteL_spec hu
      rw [Bool.eq_iff_iff]
      simp only [isW, e1, e2, e3, e4, decide_true, Bool.true_and, Bool.and_eq_true, decide_eq_true_eq, EraV.ext_iff']) grid
  rw [h1, h2, h3]
  simp only [Option.none_or, Option.or_none]
  by_cases hg : a ∈ grid
  · rw [if_pos hg]
  · rw [if_neg hg]
    cases hw : wroteL l a with
    | none => rfl
    | some u => exact absurd (came_grid hc (by rw [hw]; rfl)) hg
/-- What the votes that are told make is what the votes that came made. -/
theorem all_same {b : BookD} {l : List VoteV} (hc : Came l) (h : SameD b (allL l)) : SameD b l := by
  have hr := all_reg l
  constructor
  · rw [h.ent, hr]
    split
    · rfl
    · rename_i hn
      rw [decide_eq_false hn]; rfl
  · intro he
    have h1 := h.now he
    rw [h.ent, hr] at he
    split at he
    · rename_i hp
      rw [hr, if_pos hp] at h1
      exact h1
    · cases he
  · exact h.nown
  · rw [h.slot, all_slotL hc]
  · rw [h.acc, all_acc hc]
  · intro a
    rw [h.wrote, all_wrote hc]
theorem allL_len (l : List VoteV) : (allL l).length ≤ 2503 := by
  have h1 : (regP l).length ≤ 1 := by unfold regP; split <;> simp
  have h2 : (grid.filterMap (wroteL l)).length ≤ 2501 := Nat.le_trans (List.length_filterMap_le _ _) (by rw [grid, gridN_len]; decide)
  have h3 : (accL l).toList.length ≤ 1 := by cases accL l <;> simp
  simp only [allL, List.length_append]
  omega
end Go.Proofs.Ytdjbhpdfkopdgaa
