/- The digest as a function of bytes; walks of package sha. -/
import Derived.Test.YtgeknnclmhfjlaaGreatDoorSgP
import Derived.Test.YtgeknnclmhfjlaaGreatDoorRdP
import Derived.Test.YtgeknnclmhfjlaaGreatDoorSwP
namespace Go.Proofs.YtgeknnclmhfjlaaGreatDoor
open Go.RowKit Go.Sx
set_option maxRecDepth 100000
set_option linter.unusedSimpArgs false
set_option linter.unusedVariables false
def rotr (x : UInt32) (k : Nat) : UInt32 := (x <<< UInt32.ofNat (32 - k)) ||| (x >>> UInt32.ofNat k)
def Kc : List UInt32 := [0x428a2f98, 0x71374491, 0xb5c0fbcf, 0xe9b5dba5, 0x3956c25b, 0x59f111f1, 0x923f82a4, 0xab1c5ed5, 0xd807aa98, 0x12835b01, 0x243185be, 0x550c7dc3, 0x72be5d74, 0x80deb1fe, 0x9bdc06a7, 0xc19bf174, 0xe49b69c1, 0xefbe4786, 0x0fc19dc6, 0x240ca1cc, 0x2de92c6f, 0x4a7484aa, 0x5cb0a9dc, 0x76f988da, 0x983e5152, 0xa831c66d, 0xb00327c8, 0xbf597fc7, 0xc6e00bf3, 0xd5a79147, 0x06ca6351, 0x14292967, 0x27b70a85, 0x2e1b2138, 0x4d2c6dfc, 0x53380d13, 0x650a7354, 0x766a0abb, 0x81c2c92e, 0x92722c85, 0xa2bfe8a1, 0xa81a664b, 0xc24b8b70, 0xc76c51a3, 0xd192e819, 0xd6990624, 0xf40e3585, 0x106aa070, 0x19a4c116, 0x1e376c08, 0x2748774c, 0x34b0bcb5, 0x391c0cb3, 0x4ed8aa4a, 0x5b9cca4f, 0x682e6ff3, 0x748f82ee, 0x78a5636f, 0x84c87814, 0x8cc70208, 0x90befffa, 0xa4506ceb, 0xbef9a3f7, 0xc67178f2]
theorem Kc_len : Kc.length = 64 := by decide
def sig0 (x : UInt32) : UInt32 := rotr x 7 ^^^ rotr x 18 ^^^ (x >>> UInt32.ofNat 3)
def sig1 (x : UInt32) : UInt32 := rotr x 17 ^^^ rotr x 19 ^^^ (x >>> UInt32.ofNat 10)
def wordB (l : List UInt8) (i : Nat) : UInt32 := UInt32.ofNat (beN ((l.drop (4 * i)).take 4))
def at32 (l : List UInt32) (i : Nat) : UInt32 := (l[i]?).getD 0
/-- The first words of a block. -/
def wst (l : List UInt8) : Nat → List UInt32
 | 0 => []
 | n + 1 => wst l n ++ [if n < 16 then wordB l n else at32 (wst l n) (n - 16) + at32 (wst l n) (n - 7) + sig0 (at32 (wst l n) (n - 15)) + sig1 (at32 (wst l n) (n - 2))]
theorem wst_len (l : List UInt8) : ∀ n, (wst l n).length = n
 | 0 => rfl
 | n + 1 => by simp [wst, wst_len l n]
def wpad (l : List UInt8) (i : Nat) : List UInt32 := wst l i ++ List.replicate (64 - i) 0
theorem wpad_len (l : List UInt8) (i : Nat) (h : i ≤ 64) : (wpad l i).length = 64 := by simp [wpad, wst_len]; omega
theorem wpad_get (l : List UInt8) (i j : Nat) (h : j < i) : (wpad l i)[j]? = some (at32 (wst l i) j) := by
 rw [wpad, List.getElem?_append_left (by rw [wst_len]; exact h), at32, List.getElem?_eq_getElem (by rw [wst_len]; exact h)]; rfl
theorem wpad_set (l : List UInt8) (i : Nat) (h : i < 64) (x : UInt32) (hx : x = if i < 16 then wordB l i else at32 (wst l i) (i - 16) + at32 (wst l i) (i - 7) + sig0 (at32 (wst l i) (i - 15)) + sig1 (at32 (wst l i) (i - 2))) : (wpad l i).set i x = wpad l (i + 1) := by
 have hl := wst_len l i
 obtain ⟨k, hk⟩ : ∃ k, 64 - i = k + 1 := ⟨63 - i, by omega⟩
 rw [wpad, List.set_append_right _ _ (by rw [hl]; exact Nat.le_refl _), hl, Nat.sub_self, hk, List.replicate_succ, List.set_cons_zero, wpad, wst, ← hx, show 64 - (i + 1) = k by omega]
 simp
theorem wpad_zero (l : List UInt8) : wpad l 0 = List.replicate 64 0 := rfl
attribute [irreducible] wpad
structure S8 where
 (a b c d e f g h : UInt32)
@[reducible] def S8.list (s : S8) : List UInt32 := [s.a, s.b, s.c, s.d, s.e, s.f, s.g, s.h]
def S8.cells (s : S8) : Array Value := (wl s.list).toArray
instance {s : S8} : CellAt s.cells 0 (w32 s.a) := ⟨rfl⟩
instance {s : S8} : CellAt s.cells 1 (w32 s.b) := ⟨rfl⟩
instance {s : S8} : CellAt s.cells 2 (w32 s.c) := ⟨rfl⟩
instance {s : S8} : CellAt s.cells 3 (w32 s.d) := ⟨rfl⟩
instance {s : S8} : CellAt s.cells 4 (w32 s.e) := ⟨rfl⟩
instance {s : S8} : CellAt s.cells 5 (w32 s.f) := ⟨rfl⟩
instance {s : S8} : CellAt s.cells 6 (w32 s.g) := ⟨rfl⟩
instance {s : S8} : CellAt s.cells 7 (w32 s.h) := ⟨rfl⟩
instance {s : S8} : Cells s.cells 8 := Cells.list (by simp [wl]) (by simp [List.all_eq_true]; exact wl_one _)
theorem wl_sub {l : List UInt32} {n : Nat} (h : l.length = n) : SubAt (wl l).toArray 0 n (wl l).toArray := ⟨by subst h; apply Array.ext <;> simp⟩
theorem wl_whole {l l' : List UInt32} {n : Nat} (h : l.length = n) (h' : l'.length = n) : Put (wl l).toArray 0 (.agg (wl l').toArray) (wl l').toArray := by
 have := Put.mid ([] : List Value) (wl l) [] (cs := (wl l).toArray) (o := 0) (n := n) (v := .agg (wl l').toArray) (by simp) rfl (by simpa using h) (by simpa [Value.cells] using h')
 simpa [Value.cells] using this
instance {s : S8} : SubAt s.cells 0 8 s.cells := wl_sub rfl
instance {s u : S8} : Put s.cells 0 (.agg u.cells) u.cells := wl_whole rfl rfl
instance {u : S8} : Put (wl (List.replicate 8 0)).toArray 0 (.agg u.cells) u.cells := wl_whole (by simp) rfl
instance {l : List UInt8} : Put (wl (List.replicate 64 0)).toArray 0 (.agg (wl (wpad l 64)).toArray) (wl (wpad l 64)).toArray := wl_whole (by simp) (wpad_len l 64 (by omega))
instance {l : List UInt8} : Cells (wl (wpad l 64)).toArray 64 := Cells.list (by simp [wpad_len]) (by simp [List.all_eq_true]; exact wl_one _)
instance {l : List UInt8} : SubAt (wl (wpad l 64)).toArray 0 64 (wl (wpad l 64)).toArray := wl_sub (wpad_len l 64 (by omega))
def rnd (k w : UInt32) (s : S8) : S8 :=
 let t := s.h + (rotr s.e 6 ^^^ rotr s.e 11 ^^^ rotr s.e 25) + ((s.e &&& s.f) ^^^ (~~~s.e &&& s.g)) + k + w
 let u := (rotr s.a 2 ^^^ rotr s.a 13 ^^^ rotr s.a 22) + ((s.a &&& s.b) ^^^ (s.a &&& s.c) ^^^ (s.b &&& s.c))
 ⟨t + u, s.a, s.b, s.c, s.d + t, s.e, s.f, s.g⟩
def rnds (l : List UInt8) (s : S8) : Nat → S8
 | 0 => s
 | n + 1 => rnd (at32 Kc n) (at32 (wst l 64) n) (rnds l s n)
def S8.add (s v : S8) : S8 := ⟨s.a + v.a, s.b + v.b, s.c + v.c, s.d + v.d, s.e + v.e, s.f + v.f, s.g + v.g, s.h + v.h⟩
def compress (l : List UInt8) (s : S8) : S8 := s.add (rnds l s 64)
def S8.init : S8 := ⟨0x6a09e667, 0xbb67ae85, 0x3c6ef372, 0xa54ff53a, 0x510e527f, 0x9b05688c, 0x1f83d9ab, 0x5be0cd19⟩
/-- Block by block. -/
def foldB {α : Type} (f : List UInt8 → α → α) : Nat → List UInt8 → α → α
 | 0, _, s => s
 | n + 1, l, s => foldB f n (l.drop 64) (f (l.take 64) s)
theorem foldB_app {α : Type} (f : List UInt8 → α → α) (y : List UInt8) (m : Nat) : ∀ (q : Nat) (x : List UInt8) (s : α), x.length = 64 * q → foldB f (q + m) (x ++ y) s = foldB f m y (foldB f q x s) := by
 intro q
 induction q with
 | zero =>
  intro x s h
  obtain rfl : x = [] := List.eq_nil_of_length_eq_zero (by omega)
  simp [foldB]
 | succ q ih =>
  intro x s h
  rw [show q + 1 + m = (q + m) + 1 by omega, foldB, foldB]
  rw [List.drop_append_of_le_length (by omega), List.take_append_of_le_length (by omega)]
  exact ih (x.drop 64) _ (by simp; omega)
theorem foldB_snoc {α : Type} (f : List UInt8 → α → α) : ∀ (n : Nat) (l : List UInt8) (s : α), 64 * (n + 1) ≤ l.length → foldB f (n + 1) l s = f ((l.drop (64 * n)).take 64) (foldB f n l s) := by
 intro n
 induction n with
 | zero => intro l s h; simp [foldB]
 | succ n ih =>
  intro l s h
  rw [foldB, ih (l.drop 64) _ (by simp; omega), foldB, List.drop_drop, show 64 + 64 * n = 64 * (n + 1) by omega]
def shaB (n : Nat) (l : List UInt8) (s : S8) : S8 := foldB compress n l s
def zpad (n : Nat) : Nat := (119 - n % 64) % 64
/-- What is behind whole blocks: the rest, filled up, with the whole length in bits. -/
def padded (l : List UInt8) (n : Nat) : List UInt8 := l ++ [128] ++ List.replicate (zpad l.length) 0 ++ fixed (8 * n) 8
def hashOf (s : S8) : Vector UInt8 32 := Vector.ofFn fun j => UInt8.ofNat ((at32 s.list (j.val / 4)).toNat / 2 ^ (24 - 8 * (j.val % 4)))
def sha (l : List UInt8) : Vector UInt8 32 := hashOf (shaB ((padded l l.length).length / 64) (padded l l.length) S8.init)
theorem shaB_app (y : List UInt8) (q m : Nat) (x : List UInt8) (s : S8) (h : x.length = 64 * q) : shaB (q + m) (x ++ y) s = shaB m y (shaB q x s) := foldB_app compress y m q x s h
theorem shaB_snoc (n : Nat) (l : List UInt8) (s : S8) (h : 64 * (n + 1) ≤ l.length) : shaB (n + 1) l s = compress ((l.drop (64 * n)).take 64) (shaB n l s) := foldB_snoc compress n l s h
theorem padded_len (l : List UInt8) (n : Nat) : (padded l n).length = l.length + 1 + zpad l.length + 8 := by simp [padded, fixed_length]; omega
theorem padded_mod (l : List UInt8) (n : Nat) : (padded l n).length % 64 = 0 := by rw [padded_len]; unfold zpad; omega
theorem padded_split (l : List UInt8) (n q : Nat) (h : 64 * q ≤ l.length) : padded l n = l.take (64 * q) ++ padded (l.drop (64 * q)) n := by
 have e : zpad (l.drop (64 * q)).length = zpad l.length := by unfold zpad; simp; omega
 unfold padded
 rw [e]
 simp only [← List.append_assoc, List.take_append_drop]
/-- By whole blocks, then what is behind them. -/
theorem sha_split (l : List UInt8) (q : Nat) (h : 64 * q ≤ l.length) : sha l = hashOf (shaB ((padded (l.drop (64 * q)) l.length).length / 64) (padded (l.drop (64 * q)) l.length) (shaB q l S8.init)) := by
 unfold sha
 have hp := padded_split l l.length q h
 have h1 : (l.take (64 * q)).length = 64 * q := by simp; omega
 have e1 : (padded l l.length).length / 64 = q + (padded (l.drop (64 * q)) l.length).length / 64 := by
  rw [hp, List.length_append, h1]; omega
 rw [e1, hp, shaB_app _ q _ _ _ h1]
 have e2 : shaB q l S8.init = shaB q (l.take (64 * q)) S8.init := by
  have := shaB_app (l.drop (64 * q)) q 0 (l.take (64 * q)) S8.init h1
  rw [Nat.add_zero, List.take_append_drop] at this
  rw [this]; rfl
 rw [e2]

theorem shl_byte (a : UInt8) (s : Nat) (hs : s ≤ 24) : (UInt32.ofNat a.toNat <<< UInt32.ofNat s).toNat = a.toNat * 2 ^ s := by
 have ha := a.toNat_lt
 have h1 : a.toNat * 2 ^ s < 2 ^ 32 := by
  have h2 : (2 : Nat) ^ s ≤ 2 ^ 24 := Nat.pow_le_pow_right (by decide) hs
  have h3 := Nat.mul_le_mul (show a.toNat ≤ 255 by omega) h2
  omega
 rw [UInt32.toNat_shiftLeft, UInt32.toNat_ofNat', UInt32.toNat_ofNat', Nat.shiftLeft_eq, show s % 2 ^ 32 % 32 = s by omega, show a.toNat % 2 ^ 32 = a.toNat by omega, Nat.mod_eq_of_lt h1]
theorem bits4 (a b c d : UInt8) : ((((UInt32.ofNat a.toNat <<< UInt32.ofNat 24) ||| (UInt32.ofNat b.toNat <<< UInt32.ofNat 16)) ||| (UInt32.ofNat c.toNat <<< UInt32.ofNat 8)) ||| UInt32.ofNat d.toNat) = UInt32.ofNat (beN [a, b, c, d]) := by
 have ha := a.toNat_lt; have hb := b.toNat_lt; have hc := c.toNat_lt; have hd := d.toNat_lt
 have e1 := shl_byte a 24 (by decide)
 have e2 := shl_byte b 16 (by decide)
 have e3 := shl_byte c 8 (by decide)
 have e4 : (UInt32.ofNat d.toNat).toNat = d.toNat := by rw [UInt32.toNat_ofNat']; omega
 apply UInt32.toNat_inj.1
 rw [UInt32.toNat_or, UInt32.toNat_or, UInt32.toNat_or, e1, e2, e3, e4, UInt32.toNat_ofNat']
 rw [or_add a.toNat (b.toNat * 2 ^ 16) 24 (by omega), show a.toNat * 2 ^ 24 + b.toNat * 2 ^ 16 = (a.toNat * 256 + b.toNat) * 2 ^ 16 by omega, or_add _ (c.toNat * 2 ^ 8) 16 (by omega), show (a.toNat * 256 + b.toNat) * 2 ^ 16 + c.toNat * 2 ^ 8 = ((a.toNat * 256 + b.toNat) * 256 + c.toNat) * 2 ^ 8 by omega, or_add _ d.toNat 8 (by omega)]
 simp only [beN, List.foldl_cons, List.foldl_nil]
 omega
theorem word_of {l : List UInt8} {i : Nat} (h : 4 * i + 3 < l.length) : ((((UInt32.ofNat l[4 * i].toNat <<< UInt32.ofNat 24) ||| (UInt32.ofNat l[4 * i + 1].toNat <<< UInt32.ofNat 16)) ||| (UInt32.ofNat l[4 * i + 2].toNat <<< UInt32.ofNat 8)) ||| UInt32.ofNat l[4 * i + 3].toNat) = wordB l i := by
 have e : (l.drop (4 * i)).take 4 = [l[4 * i], l[4 * i + 1], l[4 * i + 2], l[4 * i + 3]] := by
  rw [List.drop_eq_getElem_cons (show 4 * i < l.length by omega), List.drop_eq_getElem_cons (show 4 * i + 1 < l.length by omega), List.drop_eq_getElem_cons (show 4 * i + 1 + 1 < l.length by omega), List.drop_eq_getElem_cons (show 4 * i + 1 + 1 + 1 < l.length by omega)]
  rfl
 rw [bits4, wordB, e]
theorem rot_idx (k : Nat) (h0 : 0 < k) (hk : k < 32) : IntKind.u64.wrap ((BitVec.ofInt IntKind.u64.bits (IntKind.u64.wrap (IntKind.i64.wrap (0 - (k : Int)))) &&& BitVec.ofInt IntKind.u64.bits 31).toNat : Int) = ((32 - k : Nat) : Int) := by
 have key : ∀ z : Fin 32, 0 < z.val → IntKind.u64.wrap ((BitVec.ofInt IntKind.u64.bits (IntKind.u64.wrap (IntKind.i64.wrap (0 - (z.val : Int)))) &&& BitVec.ofInt IntKind.u64.bits 31).toNat : Int) = ((32 - z.val : Nat) : Int) := by decide +kernel
 exact key ⟨k, hk⟩ h0
theorem conv32 (n : Nat) : IntKind.u32.wrap (n : Int) = ((UInt32.ofNat n).toNat : Int) := by
 rw [UInt32.toNat_ofNat']; simp [IntKind.wrap, IntKind.bits, IntKind.signed]
theorem tmod_nat (n m : Nat) : (n : Int).tmod (m : Int) = ((n % m : Nat) : Int) := rfl

set_option maxHeartbeats 1000000 in
theorem rotl_c {w0 : World} {H : List SA} {x : UInt32} {k : Nat} (h0 : 0 < k) (hk : k < 32) :
 CT Tryz.prog w0 (H) 205 [w32 x, .int .i64 (IntKind.i64.wrap (0 - (k : Int)))] (α := Unit) (fun _ => w32 (rotr x k)) (fun _ => H) := by
 refine CT_intro Tryz.func205 rfl Tryz.ntmps205 rfl ?_
 refine T2 (zq (za (.int .u32 _) rfl) rfl (T4 (Qmi rfl rfl (zq (Qt_conv rfl rfl Tryz.underlying199) rfl (zq (Qt_val (Qt_and rfl rfl) (congrArg (Value.int .u64) (rot_idx k h0 hk))) rfl ?_)))))
 refine zq (za (.int .u64 _) rfl) rfl (T4 (zq (zm (.int .u32 _) rfl) rfl (zq (zm (.int .u64 _) rfl) rfl (zq (Qt_shl32 (32 - k) rfl rfl (by omega)) rfl (zq (zm (.int .u32 _) rfl) rfl ?_)))))
 refine zq (zm (.int .u64 _) rfl) rfl (zq (Qt_val (Qt_subw rfl rfl) (congrArg (Value.int .u64) (show IntKind.u64.wrap (32 - ((32 - k : Nat) : Int)) = ((k : Nat) : Int) from by rw [wrap_u64 (by omega) (by omega)]; omega))) rfl (zq (Qt_shr32 k rfl rfl hk) rfl (zq (Qt_or32 rfl rfl) rfl (zq (za (.int .u32 _) rfl) rfl (TX (zQ ?_))))))
 exact zX () [_] Tryz.results205 ⟨rfl, trivial⟩ rfl SB
set_option maxHeartbeats 1000000 in
theorem turn_c {w0 : World} {H : List SA} {x : UInt32} {k : Nat} (h0 : 0 < k) (hk : k < 32) :
 CT Tryz.prog w0 (H) 175 [w32 x, .int .i64 (k : Int)] (α := Unit) (fun _ => w32 (rotr x k)) (fun _ => H) := by
 refine CT_intro Tryz.func175 rfl Tryz.ntmps175 rfl ?_
 refine T2 (zq (za (.int .u32 _) rfl) rfl (T4 (zq (zm (.int .u32 _) rfl) rfl (Qmi rfl rfl (zq (Qt_neg rfl) rfl ?_)))))
 refine ze rfl (zc (rotl_c (x := x) (k := k) h0 hk) rfl (fun x8 => ?_))
 refine zq (za (.int .u32 _) rfl) rfl (TX (zQ ?_))
 exact zX () [_] Tryz.results175 ⟨rfl, trivial⟩ rfl SB
set_option maxHeartbeats 1000000 in
theorem start_c {w0 : World} {H : List SA}  :
 CT Tryz.prog w0 (H) 130 [] (α := Unit) (fun _ => .agg S8.init.cells) (fun _ => H) := by
 refine CT_intro Tryz.func130 rfl Tryz.ntmps130 rfl ?_
 refine T2 ?_
 refine ze rfl (Ef_allocN (fun b0 => ?_))
 refine T4 (zq (Qt_build_arr S8.init.cells Tryz.underlying223 rfl rfl (by kernel_rfl)) rfl ?_)
 refine zN (zs rfl rfl (?_))
 refine TX (zQ ?_)
 exact zX () [_] Tryz.results130 ⟨⟨_, rfl, res_cellN rfl⟩, trivial⟩ rfl SB
set_option maxHeartbeats 1000000 in
theorem rounds_c {w0 : World} {H : List SA}  :
 CT Tryz.prog w0 (H) 131 [] (α := Nat) (fun b => .pointer (some ⟨b, 0, none⟩)) (fun b => blk b (.cells (wl Kc).toArray 265 (0, 0)) :: H) := by
 refine CT_intro Tryz.func131 rfl Tryz.ntmps131 rfl ?_
 refine T2 (zq (za (.pointer _) rfl) rfl (T4 (zq (Qt_build_arr (wl Kc).toArray Tryz.underlying265 rfl rfl (by kernel_rfl)) rfl ?_)))
 refine ze rfl (Ef_allocN (fun b1 => ?_))
 have hp0 : Put (wl (List.replicate 64 0)).toArray 0 (.agg (wl Kc).toArray) (wl Kc).toArray := wl_whole (by simp) Kc_len
 have hc0 : Cells (wl Kc).toArray 64 := Cells.list (by simp [Kc_len]) (by simp [List.all_eq_true]; exact wl_one _)
 refine zN (zs rfl rfl (?_))
 refine T4 (zq (za (.pointer _) rfl) rfl (TX (zQ ?_)))
 exact zX b1 [_] Tryz.results131 ⟨rfl, trivial⟩ rfl SB
theorem wcell {l : List UInt8} {i m j k : Nat} (hij : i ≤ m) (hm : m ≤ i + 1) (hk : j + k = i) (hk0 : 0 < k) {n : Nat} (hn : n = j) : (wl (wpad l m)).toArray[n]? = some (w32 (at32 (wst l i) j)) := by
 subst hn
 have e : at32 (wst l m) n = at32 (wst l i) n := by
  rcases (by omega : m = i ∨ m = i + 1) with rfl | rfl
  · rfl
  · simp only [at32, wst]
    rw [List.getElem?_append_left (by rw [wst_len]; omega)]
 rw [List.getElem?_toArray, wl, List.getElem?_map, wpad_get l m n (by omega), e]; rfl
theorem wcells {w0 w : World} {H Hr : List SA} {b T : Nat} {l : List UInt8} {i m : Nat} {fz : Nat × Nat} [h : Pick b H (.cells (wl (wpad l m)).toArray T fz) Hr] (hi : 16 ≤ i) (hij : i ≤ m) (hm : m ≤ i + 1) (hw : St w0 H w) :
 St w0 [cellsOf b [(0 + ((i : Int) - 16).toNat * 1, w32 (at32 (wst l i) (i - 16))), (0 + ((i : Int) - 7).toNat * 1, w32 (at32 (wst l i) (i - 7)))]] w :=
 St.cellsOf (fun p hp => by
  simp only [List.mem_cons, List.not_mem_nil, or_false] at hp
  rcases hp with rfl | rfl
  · exact wcell hij hm (show i - 16 + 16 = i by omega) (by omega) (by omega)
  · exact wcell hij hm (show i - 7 + 7 = i by omega) (by omega) (by omega)) hw

set_option maxHeartbeats 1000000 in
theorem words_c {w0 : World} {H : List SA} {a : Option Addr} {l : List UInt8} {c : Nat} [hr : RdB w0 H (.slice a l.length c) l] (hl : l.length = 64) :
 CT Tryz.prog w0 (H) 174 [.slice a l.length c] (α := Unit) (fun _ => .agg (wl (wpad l 64)).toArray) (fun _ => H) := by
 refine CT_intro Tryz.func174 rfl Tryz.ntmps174 rfl ?_
 refine T2 ?_
 refine ze rfl (Ef_allocN (fun b2 => ?_))
 refine T4 ?_
 refine ze rfl (Ef_allocN (fun b3 => ?_))
 refine TX (zS (T2 ?_))
 refine Qmi rfl rfl (TX (zB ?_))
 refine T_loop [4, 8, 9, 10, 11, 12, 13, 14, 15, 16, 17, 18, 19, 20, 21, 22, 23, 24, 25, 26, 27, 28, 29, 30, 31, 32, 33, 34, 35, 36, 37, 38, 39, 40, 41, 42, 43, 44, 45, 46] [8] (fun us H' => ∃ (i : Nat), us = [.int .i64 (i : Int)] ∧ blk b3 (.cells (wl (wpad l (i))).toArray 265 (0, 0)) :: blk b2 (.cells (wl (List.replicate 64 0)).toArray 265 (0, 0)) :: H = H' ∧ i ≤ 16) (fun us => match us with | .int _ i :: _ => 16 - i.toNat | _ => 0) ⟨0, rfl, rfl, by omega⟩ (fun w hw => by rw [wpad_zero]; exact SB w hw) ?_
 rintro τ0 _ _  ⟨i, rfl, rfl, hi0⟩ _
 refine T2 (zq (Qt_lss rfl rfl) rfl (TX (zS ?_)))
 refine zC rfl (fun h9 => ?_) (fun h9 => ?_)
 ·
  have p9 := h9
  try simp only [dp] at p9
  have hi : i < 16 := by omega
  refine zk (zx (zS (zB (T2 ?_))))
  refine Qmi rfl rfl (Qai rfl rfl (TX (T_draw H [(0, true), (1, true), (2, true), (3, true), (4, true), (5, true), (6, true), (7, true), (8, true), (9, true), (10, true), (11, true), (12, true), (13, true), (14, true), (15, true), (16, true), (17, true), (18, true), (19, true), (20, true), (21, true), (22, true), (23, true), (24, true), (25, true), (26, true), (27, true), (28, true), (29, true), (30, true), (31, true), (32, true), (33, true), (34, true), (35, false)] (by kernel_rfl) (by kernel_rfl) rfl (by kernel_rfl) SB (fun hns0 => ?_))))
  refine zd hns0 rfl (zm (.int .i64 _) rfl) rfl (zd hns0 rfl (zm (.slice _ _ _) rfl) rfl (zd hns0 rfl (zm (.int .i64 _) rfl) rfl (zd hns0 rfl (Qt_mul rfl rfl (by omega) (by omega)) rfl (zd hns0 rfl (Qt_indexR rfl rfl (by omega) (by rw [bytesV_length]; omega)) rfl (zd hns0 rfl (Qt_loadR (.int .u8 (l[4 * i].toNat : Int)) rfl (by rw [show (4 * (i : Int)).toNat = 4 * i from by omega]; exact bytes_get _ _ (by omega))) rfl ?_)))))
  refine zd hns0 rfl (Qt_val (Qt_conv rfl rfl Tryz.underlying221) (congrArg (Value.int .u32) (conv32 l[4 * i].toNat))) rfl (zd hns0 rfl (Qt_shl32 24 rfl rfl (by decide)) rfl (zd hns0 rfl (zm (.slice _ _ _) rfl) rfl (zd hns0 rfl (zm (.int .i64 _) rfl) rfl (zd hns0 rfl (Qt_mul rfl rfl (by omega) (by omega)) rfl (zd hns0 rfl (Qt_add rfl rfl (by omega) (by omega)) rfl ?_)))))
  refine zd hns0 rfl (Qt_indexR rfl rfl (by omega) (by rw [bytesV_length]; omega)) rfl (zd hns0 rfl (Qt_loadR (.int .u8 (l[4 * i + 1].toNat : Int)) rfl (by rw [show (4 * (i : Int) + 1).toNat = 4 * i + 1 from by omega]; exact bytes_get _ _ (by omega))) rfl (zd hns0 rfl (Qt_val (Qt_conv rfl rfl Tryz.underlying221) (congrArg (Value.int .u32) (conv32 l[4 * i + 1].toNat))) rfl (zd hns0 rfl (Qt_shl32 16 rfl rfl (by decide)) rfl (zd hns0 rfl (Qt_or32 rfl rfl) rfl (zd hns0 rfl (zm (.slice _ _ _) rfl) rfl ?_)))))
  refine zd hns0 rfl (zm (.int .i64 _) rfl) rfl (zd hns0 rfl (Qt_mul rfl rfl (by omega) (by omega)) rfl (zd hns0 rfl (Qt_add rfl rfl (by omega) (by omega)) rfl (zd hns0 rfl (Qt_indexR rfl rfl (by omega) (by rw [bytesV_length]; omega)) rfl (zd hns0 rfl (Qt_loadR (.int .u8 (l[4 * i + 2].toNat : Int)) rfl (by rw [show (4 * (i : Int) + 2).toNat = 4 * i + 2 from by omega]; exact bytes_get _ _ (by omega))) rfl (zd hns0 rfl (Qt_val (Qt_conv rfl rfl Tryz.underlying221) (congrArg (Value.int .u32) (conv32 l[4 * i + 2].toNat))) rfl ?_)))))
  refine zd hns0 rfl (Qt_shl32 8 rfl rfl (by decide)) rfl (zd hns0 rfl (Qt_or32 rfl rfl) rfl (zd hns0 rfl (zm (.slice _ _ _) rfl) rfl (zd hns0 rfl (zm (.int .i64 _) rfl) rfl (zd hns0 rfl (Qt_mul rfl rfl (by omega) (by omega)) rfl (zd hns0 rfl (Qt_add rfl rfl (by omega) (by omega)) rfl ?_)))))
  refine zd hns0 rfl (Qt_indexR rfl rfl (by omega) (by rw [bytesV_length]; omega)) rfl (zd hns0 rfl (Qt_loadR (.int .u8 (l[4 * i + 3].toNat : Int)) rfl (by rw [show (4 * (i : Int) + 3).toNat = 4 * i + 3 from by omega]; exact bytes_get _ _ (by omega))) rfl (zd hns0 rfl (Qt_val (Qt_conv rfl rfl Tryz.underlying221) (congrArg (Value.int .u32) (conv32 l[4 * i + 3].toNat))) rfl (zd hns0 rfl (Qt_or32 rfl rfl) rfl ?_)))
  rw [word_of (by omega)]
  refine zd hns0 rfl (Qt_indexAddr_arr (sz := 1) rfl rfl Tryz.underlying265 rfl rfl (by omega) (by omega)) rfl ?_
  have hput : Put (wl (wpad l i)).toArray (0 + (i : Int).toNat * 1) (w32 (wordB l i)) (wl (wpad l (i + 1))).toArray := by have := putAt32 (l := wpad l i) (n := 0 + (i : Int).toNat * 1) (i := i) (x := wordB l i) (by simp) (by rw [wpad_len l i (by omega)]; omega); rwa [wpad_set l i (by omega) _ (by rw [if_pos hi])] at this
  refine DL_n rfl (Ef_store1 (.int .u32 _) rfl rfl (⟨SB, ?_⟩))
  refine DL_nil (X_block (zx (zR ?_)))
  refine zq (Qt_add rfl rfl (by omega) (by omega)) rfl (Qmi rfl rfl (zz (X_loop _ (by repeat (first | with_reducible exact agree_refl | refine agree_upd rfl ?_ | refine agree_mix rfl ?_ | refine agree_setAll rfl ?_)) (⟨i + 1, rfl, rfl, by omega⟩) (by show 16 - (i + 1 : Int).toNat < 16 - (i : Int).toNat; omega) (SB))))
 have p9 := h9
 try simp only [dp] at p9
 have hi : i = 16 := by omega
 subst hi
 refine zY (zG (zW (zE (zx (zS (T2 ?_))))))
 refine Qai rfl rfl (TX (zB ?_))
 refine T_loop [5, 6, 7, 47, 48, 49, 50, 51, 52, 53, 54, 55, 56, 57, 58, 59, 60, 61, 62, 63, 64, 65, 66, 67, 68, 69, 70, 71, 72, 73, 74, 75, 76, 77, 78, 79, 80, 81, 82, 83, 84, 85, 86, 87] [5] (fun us H' => ∃ i : Nat, us = [.int .i64 (i : Int)] ∧ blk b3 (.cells (wl (wpad l (i))).toArray 265 (0, 0)) :: blk b2 (.cells (wl (List.replicate 64 0)).toArray 265 (0, 0)) :: H = H' ∧ 16 ≤ i ∧ i ≤ 64) (fun us => match us with | .int _ i :: _ => 64 - i.toNat | _ => 0) ⟨16, rfl, rfl, by omega, by omega⟩ SB ?_
 rintro τ1 _ _  ⟨i, rfl, rfl, hi16, hi0⟩ _
 refine zS (T2 ?_)
 refine Qmi rfl rfl (zq (Qt_lss rfl rfl) rfl (TX (zC rfl (fun h48 => ?_) (fun h48 => ?_))))
 ·
  have p48 := h48
  try simp only [dp] at p48
  have hi : i < 64 := by omega
  refine zk (zx (zS (zB (zS ?_))))
  refine T_draw _ [(0, true), (1, true), (2, true), (3, true), (4, true), (5, true), (6, true), (7, true), (8, true), (9, true)] (by kernel_rfl) (by kernel_rfl) rfl (by kernel_rfl) (fun _ hh => hh) (fun hns1 => ?_)
  refine zd hns1 rfl (zm (.int .i64 _) rfl) rfl (zd hns1 rfl (Qt_sub rfl rfl (by omega) (by omega)) rfl (zd hns1 rfl (Qt_indexAddr_arr (sz := 1) rfl rfl Tryz.underlying265 rfl rfl (by omega) (by omega)) rfl (zd hns1 rfl (Qt_load1' (w32 (at32 (wst l i) (i - 15))) rfl (fun w hw => by rw [cell_of_blk ((inferInstance : Mem w0 _ b3 _).get w hw)]; exact wcell (Nat.le_refl _) (by omega) (show i - 15 + 15 = i by omega) (by omega) (by omega))) rfl (zd hns1 rfl (zm (.int .i64 _) rfl) rfl (zd hns1 rfl (Qt_sub rfl rfl (by omega) (by omega)) rfl ?_)))))
  refine zd hns1 rfl (Qt_indexAddr_arr (sz := 1) rfl rfl Tryz.underlying265 rfl rfl (by omega) (by omega)) rfl (zd hns1 rfl (Qt_load1' (w32 (at32 (wst l i) (i - 2))) rfl (fun w hw => by rw [cell_of_blk ((inferInstance : Mem w0 _ b3 _).get w hw)]; exact wcell (Nat.le_refl _) (by omega) (show i - 2 + 2 = i by omega) (by omega) (by omega))) rfl (zd hns1 rfl (za (.int .u32 _) rfl) rfl (zd hns1 rfl (za (.int .u32 _) rfl) rfl (DL_nil (zx ?_)))))
  refine T_draw [cellsOf b3 [(0 + ((i : Int) - 16).toNat * 1, w32 (at32 (wst l i) (i - 16))), (0 + ((i : Int) - 7).toNat * 1, w32 (at32 (wst l i) (i - 7)))]] [(0, true), (1, true), (2, true), (3, true), (4, true), (5, true), (6, true), (7, true), (8, true), (9, true), (10, true), (12, true), (15, true), (16, true), (19, true), (21, true), (24, true), (25, true), (11, false), (13, false), (14, true), (17, true), (18, true), (20, false), (22, false), (23, true), (26, true), (27, true), (28, true), (29, false)] (by kernel_rfl) (by kernel_rfl) rfl (by kernel_rfl) (fun w hw => wcells hi16 (Nat.le_refl _) (by omega) hw) (fun hns2 => ?_)
  refine zd hns2 rfl (zm (.int .i64 _) rfl) rfl (zd hns2 rfl (zm (.int .i64 _) rfl) rfl (zd hns2 rfl (Qt_sub rfl rfl (by omega) (by omega)) rfl (zd hns2 rfl (Qt_indexAddr_arr (sz := 1) rfl rfl Tryz.underlying265 rfl rfl (by omega) (by omega)) rfl (zd hns2 rfl (Qt_load1' (w32 (at32 (wst l i) (i - 16))) rfl (fun w hw => cellsOf_get hw (by simp))) rfl (zd hns2 rfl (zm (.int .i64 _) rfl) rfl ?_)))))
  refine zd hns2 rfl (Qt_sub rfl rfl (by omega) (by omega)) rfl (zd hns2 rfl (Qt_indexAddr_arr (sz := 1) rfl rfl Tryz.underlying265 rfl rfl (by omega) (by omega)) rfl (zd hns2 rfl (Qt_load1' (w32 (at32 (wst l i) (i - 7))) rfl (fun w hw => cellsOf_get hw (by simp))) rfl (zd hns2 rfl (Qt_add32 rfl rfl) rfl (zd hns2 rfl (zm (.int .u32 _) rfl) rfl (zd hns2 rfl (zm (.int .u32 _) rfl) rfl ?_)))))
  refine zd hns2 rfl (zm (.int .u32 _) rfl) rfl (zd hns2 rfl (Qt_shr32 3 rfl rfl (by decide)) rfl (zd hns2 rfl (zm (.int .u32 _) rfl) rfl (zd hns2 rfl (zm (.int .u32 _) rfl) rfl (zd hns2 rfl (zm (.int .u32 _) rfl) rfl (zd hns2 rfl (Qt_shr32 10 rfl rfl (by decide)) rfl ?_)))))
  refine DL_e rfl rfl (zc (turn_c (k := 7) (by decide) (by decide)) rfl (fun x70 => ⟨(fun w hw => wcells hi16 (Nat.le_refl _) (by omega) hw), ?_⟩))
  refine DL_e rfl rfl (zc (turn_c (k := 18) (by decide) (by decide)) rfl (fun x72 => ⟨(fun w hw => wcells hi16 (Nat.le_refl _) (by omega) hw), ?_⟩))
  refine zd hns2 rfl (Qt_xor32 rfl rfl) rfl (zd hns2 rfl (Qt_xor32 rfl rfl) rfl (zd hns2 rfl (Qt_add32 rfl rfl) rfl ?_))
  refine DL_e rfl rfl (zc (turn_c (k := 17) (by decide) (by decide)) rfl (fun x79 => ⟨(fun w hw => wcells hi16 (Nat.le_refl _) (by omega) hw), ?_⟩))
  refine DL_e rfl rfl (zc (turn_c (k := 19) (by decide) (by decide)) rfl (fun x81 => ⟨(fun w hw => wcells hi16 (Nat.le_refl _) (by omega) hw), ?_⟩))
  refine zd hns2 rfl (Qt_xor32 rfl rfl) rfl (zd hns2 rfl (Qt_xor32 rfl rfl) rfl (zd hns2 rfl (Qt_add32 rfl rfl) rfl (zd hns2 rfl (Qt_indexAddr_arr (sz := 1) rfl rfl Tryz.underlying265 rfl rfl (by omega) (by omega)) rfl ?_)))
  have hput : Put (wl (wpad l i)).toArray (0 + (i : Int).toNat * 1) (w32 (at32 (wst l i) (i - 16) + at32 (wst l i) (i - 7) + (rotr (at32 (wst l i) (i - 15)) 7 ^^^ rotr (at32 (wst l i) (i - 15)) 18 ^^^ (at32 (wst l i) (i - 15) >>> UInt32.ofNat 3)) + (rotr (at32 (wst l i) (i - 2)) 17 ^^^ rotr (at32 (wst l i) (i - 2)) 19 ^^^ (at32 (wst l i) (i - 2) >>> UInt32.ofNat 10)))) (wl (wpad l (i + 1))).toArray := by have := putAt32 (l := wpad l i) (n := 0 + (i : Int).toNat * 1) (i := i) (x := at32 (wst l i) (i - 16) + at32 (wst l i) (i - 7) + sig0 (at32 (wst l i) (i - 15)) + sig1 (at32 (wst l i) (i - 2))) (by simp) (by rw [wpad_len l i (by omega)]; omega); rw [wpad_set l i (by omega) _ (by rw [if_neg (by omega)])] at this; exact this
  refine DL_n rfl (Ef_store1 (.int .u32 _) rfl rfl (⟨(fun w hw => wcells hi16 (Nat.le_succ _) (Nat.le_refl _) hw), ?_⟩))
  refine DL_nil (X_block (zx (zR ?_)))
  refine Qmi rfl rfl (zq (Qt_add rfl rfl (by omega) (by omega)) rfl (Qai rfl rfl (zz (X_loop _ (by repeat (first | with_reducible exact agree_refl | refine agree_upd rfl ?_ | refine agree_mix rfl ?_ | refine agree_setAll rfl ?_)) (⟨i + 1, rfl, rfl, by omega, by omega⟩) (by show 64 - (i + 1 : Int).toNat < 64 - (i : Int).toNat; omega) (SB)))))
 have p48 := h48
 try simp only [dp] at p48
 have hi : i = 64 := by omega
 subst hi
 refine zY (zG (zW (zE (zx (T2 ?_)))))
 refine zq (zn rfl rfl) rfl ?_
 refine zN (zs rfl rfl (?_))
 refine TX (zQ ?_)
 exact zX () [_] Tryz.results174 ⟨⟨_, rfl, res_cellN rfl⟩, trivial⟩ rfl SB
theorem fill8 (a b c d e f g h : UInt32) : Instr.fill (fun i => some (i * 1, 1)) (wl (List.replicate 8 0)).toArray [(0, w32 a), (1, w32 b), (2, w32 c), (3, w32 d), (4, w32 e), (5, w32 f), (6, w32 g), (7, w32 h)] = some (S8.mk a b c d e f g h).cells := by
 have h1 := fill_dense 1 [w32 a, w32 b, w32 c, w32 d, w32 e, w32 f, w32 g, w32 h] 0 [] (wl (List.replicate 8 0)) (by simp [Value.cells]) rfl (by simp)
 exact h1
theorem rnds_zero (l : List UInt8) (s : S8) : rnds l s 0 = s := rfl
theorem rnd_eq (k w : UInt32) (s : S8) : S8.mk ((s.h + (rotr s.e 6 ^^^ rotr s.e 11 ^^^ rotr s.e 25) + ((s.e &&& s.f) ^^^ (~~~s.e &&& s.g)) + k + w) + ((rotr s.a 2 ^^^ rotr s.a 13 ^^^ rotr s.a 22) + ((s.a &&& s.b) ^^^ (s.a &&& s.c) ^^^ (s.b &&& s.c)))) s.a s.b s.c
 (s.d + (s.h + (rotr s.e 6 ^^^ rotr s.e 11 ^^^ rotr s.e 25) + ((s.e &&& s.f) ^^^ (~~~s.e &&& s.g)) + k + w)) s.e s.f s.g = rnd k w s := rfl
theorem rnds_succ (l : List UInt8) (s : S8) (n : Nat) : rnds l s (n + 1) = rnd (at32 Kc n) (at32 (wst l 64) n) (rnds l s n) := rfl
theorem cellAt32a {l : List UInt32} {n i : Nat} (hn : n = i) (h : i < l.length) : CellAt (wl l).toArray n (w32 (at32 l i)) := cellAt32 hn (by rw [at32, List.getElem?_eq_getElem h]; rfl)
theorem cellAtW {l : List UInt8} {n i : Nat} (hn : n = i) (h : i < 64) : CellAt (wl (wpad l 64)).toArray n (w32 (at32 (wst l 64) i)) := cellAt32 hn (wpad_get l 64 i h)
/-- Some words added, the others not yet. -/
def addN (s v : S8) (i : Nat) : List UInt32 := (s.add v).list.take i ++ s.list.drop i
theorem addN_len (s v : S8) (i : Nat) (h : i ≤ 8) : (addN s v i).length = 8 := by simp [addN]; omega
theorem addN_at (s v : S8) (i : Nat) (h : i < 8) : (addN s v i)[i]? = some (at32 s.list i) := by
 rcases (by omega : i = 0 ∨ i = 1 ∨ i = 2 ∨ i = 3 ∨ i = 4 ∨ i = 5 ∨ i = 6 ∨ i = 7) with rfl | rfl | rfl | rfl | rfl | rfl | rfl | rfl <;> rfl
theorem addN_set (s v : S8) (i : Nat) (h : i < 8) : (addN s v i).set i (at32 s.list i + at32 v.list i) = addN s v (i + 1) := by
 rcases (by omega : i = 0 ∨ i = 1 ∨ i = 2 ∨ i = 3 ∨ i = 4 ∨ i = 5 ∨ i = 6 ∨ i = 7) with rfl | rfl | rfl | rfl | rfl | rfl | rfl | rfl <;> rfl

set_option maxHeartbeats 1000000 in
theorem block_c {w0 : World} {H : List SA} {a : Option Addr} {l : List UInt8} {c kb : Nat} {s : S8} [hr : RdB w0 H (.slice a l.length c) l] [hkb : Mem w0 H kb (.cells (wl Kc).toArray 265 (0, 0))] (hl : l.length = 64) :
 CT Tryz.prog w0 (H) 132 [.agg s.cells, .slice a l.length c, .pointer (some ⟨kb, 0, none⟩)] (α := Unit) (fun _ => .agg (compress l s).cells) (fun _ => H) := by
 refine CT_intro Tryz.func132 rfl Tryz.ntmps132 rfl ?_
 refine T2 ?_
 refine ze rfl (Ef_boxN rfl (fun b3 => ?_))
 refine ze rfl (Ef_allocN (fun b6 => ?_))
 refine T4 (Qms rfl rfl ?_)
 refine ze rfl (zc (words_c hl) rfl (fun x16 => ?_))
 refine ze rfl (Ef_allocN (fun b7 => ?_))
 refine zN (zs rfl rfl (?_))
 refine T4 (zq (zn rfl rfl) rfl ?_)
 refine ze rfl (Ef_allocN (fun b8 => ?_))
 refine zN (zs rfl rfl (?_))
 refine TX (zS (T2 ?_))
 refine Qmi rfl rfl (TX (zB ?_))
 refine T_loop [9, 10, 11, 12, 13, 18, 19, 20, 21, 22, 23, 24, 25, 26, 27, 28, 29, 30, 31, 32, 33, 34, 35, 36, 37, 38, 39, 40, 41, 42, 43, 44, 45, 46, 47, 48, 49, 50, 51, 52, 53, 54, 55, 56, 57, 58, 59, 60, 61, 62, 63, 64, 65, 66, 67, 68, 69, 70, 71, 72, 73, 74, 75, 76, 77, 78, 79, 80, 81, 82, 83, 84, 85, 86, 87, 88, 89, 90, 91, 92, 93, 94, 95, 96, 97, 98, 99, 100, 101] [18] (fun us H' => ∃ (i : Nat), us = [.int .i64 (i : Int)] ∧ blk b8 (.cells (rnds l s i).cells 223 (0, 0)) :: blk b7 (.cells (wl (wpad l 64)).toArray 265 (0, 0)) :: blk b6 (.cells (wl (List.replicate 8 0)).toArray 223 (0, 0)) :: blk b3 (.cells s.cells 223 (0, 0)) :: H = H' ∧ i ≤ 64) (fun us => match us with | .int _ i :: _ => 64 - i.toNat | _ => 0) ⟨0, rfl, rfl, by omega⟩ (fun w hw => by rw [rnds_zero]; exact SB w hw) ?_
 rintro τ0 _ _  ⟨i, rfl, rfl, hi0⟩ _
 refine T2 (zq (Qt_lss rfl rfl) rfl (TX (zS ?_)))
 refine zC rfl (fun h19 => ?_) (fun h19 => ?_)
 ·
  have p19 := h19
  try simp only [dp] at p19
  have hi : i < 64 := by omega
  refine zk (zx (zS (zB (T2 ?_))))
  refine Qmi rfl rfl (Qai rfl rfl (TX (zS ?_)))
  refine T_draw _ [(0, true), (1, true), (2, true), (3, true), (4, true), (5, true)] (by kernel_rfl) (by kernel_rfl) rfl (by kernel_rfl) (fun _ hh => hh) (fun hns0 => ?_)
  refine zd hns0 rfl (Qt_indexAddr_arrC (sz := 1) 4 4 rfl rfl Tryz.underlying223 rfl rfl rfl rfl) rfl (zd hns0 rfl (zl rfl) rfl (zd hns0 rfl (Qt_indexAddr_arrC (sz := 1) 0 0 rfl rfl Tryz.underlying223 rfl rfl rfl rfl) rfl (zd hns0 rfl (zl rfl) rfl (zd hns0 rfl (za (.int .u32 _) rfl) rfl (zd hns0 rfl (za (.int .u32 _) rfl) rfl ?_)))))
  refine DL_nil (zx (zS ?_))
  refine T_draw _ [(0, true), (1, true), (2, true), (4, true), (7, true), (11, true), (12, true), (13, true), (14, true), (15, true), (16, true), (17, true), (18, true), (19, true), (20, true), (22, true), (23, true), (24, true), (25, true), (26, true), (28, true), (29, true), (30, true), (3, false), (5, false), (6, true), (8, false), (9, true), (10, true), (21, true), (27, true), (31, true), (32, true)] (by kernel_rfl) (by kernel_rfl) rfl (by kernel_rfl) (fun _ hh => hh) (fun hns1 => ?_)
  refine zd hns1 rfl (Qt_indexAddr_arrC (sz := 1) 7 7 rfl rfl Tryz.underlying223 rfl rfl rfl rfl) rfl (zd hns1 rfl (zl rfl) rfl (zd hns1 rfl (zm (.int .u32 _) rfl) rfl (zd hns1 rfl (zm (.int .u32 _) rfl) rfl (zd hns1 rfl (zm (.int .u32 _) rfl) rfl (zd hns1 rfl (zm (.int .u32 _) rfl) rfl ?_)))))
  refine zd hns1 rfl (Qt_indexAddr_arrC (sz := 1) 5 5 rfl rfl Tryz.underlying223 rfl rfl rfl rfl) rfl (zd hns1 rfl (zl rfl) rfl (zd hns1 rfl (Qt_and32 rfl rfl) rfl (zd hns1 rfl (zm (.int .u32 _) rfl) rfl (zd hns1 rfl (Qt_not32 rfl) rfl (zd hns1 rfl (Qt_indexAddr_arrC (sz := 1) 6 6 rfl rfl Tryz.underlying223 rfl rfl rfl rfl) rfl ?_)))))
  refine zd hns1 rfl (zl rfl) rfl (zd hns1 rfl (Qt_and32 rfl rfl) rfl (zd hns1 rfl (Qt_xor32 rfl rfl) rfl (zd hns1 rfl (zm (.pointer _) rfl) rfl (zd hns1 rfl (zm (.int .i64 _) rfl) rfl (zd hns1 rfl (Qt_nilCheck rfl) rfl ?_)))))
  refine zd hns1 rfl (Qt_indexAddr_arr (sz := 1) rfl rfl Tryz.underlying265 rfl rfl (by omega) (by omega)) rfl ?_
  have cK := cellAt32a (l := Kc) (n := 0 + (i : Int).toNat * 1) (i := i) (by simp) (by rw [Kc_len]; exact hi)
  refine zd hns1 rfl (zl rfl) rfl (zd hns1 rfl (zm (.int .i64 _) rfl) rfl (zd hns1 rfl (Qt_indexAddr_arr (sz := 1) rfl rfl Tryz.underlying265 rfl rfl (by omega) (by omega)) rfl ?_))
  have cW := cellAtW (l := l) (n := 0 + (i : Int).toNat * 1) (i := i) (by simp) hi
  refine zd hns1 rfl (zl rfl) rfl ?_
  refine DL_e rfl rfl (zc (turn_c (k := 6) (by decide) (by decide)) rfl (fun x28 => ⟨SB, ?_⟩))
  refine DL_e rfl rfl (zc (turn_c (k := 11) (by decide) (by decide)) rfl (fun x30 => ⟨SB, ?_⟩))
  refine zd hns1 rfl (Qt_xor32 rfl rfl) rfl ?_
  refine DL_e rfl rfl (zc (turn_c (k := 25) (by decide) (by decide)) rfl (fun x33 => ⟨SB, ?_⟩))
  refine zd hns1 rfl (Qt_xor32 rfl rfl) rfl (zd hns1 rfl (Qt_add32 rfl rfl) rfl (zd hns1 rfl (Qt_add32 rfl rfl) rfl (zd hns1 rfl (Qt_add32 rfl rfl) rfl (zd hns1 rfl (Qt_add32 rfl rfl) rfl (zd hns1 rfl (za (.int .u32 _) rfl) rfl ?_)))))
  refine DL_nil (zx (zS ?_))
  refine T_draw _ [(0, true), (2, true), (5, true), (8, true), (9, true), (10, true), (11, true), (12, true), (13, true), (14, true), (15, true), (16, true), (17, true), (18, true), (19, true), (20, true), (21, true), (22, true), (1, false), (3, false), (4, true), (6, false), (7, true), (23, true), (24, true)] (by kernel_rfl) (by kernel_rfl) rfl (by kernel_rfl) (fun _ hh => hh) (fun hns2 => ?_)
  refine zd hns2 rfl (zm (.int .u32 _) rfl) rfl (zd hns2 rfl (zm (.int .u32 _) rfl) rfl (zd hns2 rfl (zm (.int .u32 _) rfl) rfl (zd hns2 rfl (zm (.int .u32 _) rfl) rfl (zd hns2 rfl (Qt_indexAddr_arrC (sz := 1) 1 1 rfl rfl Tryz.underlying223 rfl rfl rfl rfl) rfl (zd hns2 rfl (zl rfl) rfl ?_)))))
  refine zd hns2 rfl (Qt_and32 rfl rfl) rfl (zd hns2 rfl (zm (.int .u32 _) rfl) rfl (zd hns2 rfl (Qt_indexAddr_arrC (sz := 1) 2 2 rfl rfl Tryz.underlying223 rfl rfl rfl rfl) rfl (zd hns2 rfl (zl rfl) rfl (zd hns2 rfl (Qt_and32 rfl rfl) rfl (zd hns2 rfl (Qt_xor32 rfl rfl) rfl ?_)))))
  refine zd hns2 rfl (Qt_indexAddr_arrC (sz := 1) 1 1 rfl rfl Tryz.underlying223 rfl rfl rfl rfl) rfl (zd hns2 rfl (zl rfl) rfl (zd hns2 rfl (Qt_indexAddr_arrC (sz := 1) 2 2 rfl rfl Tryz.underlying223 rfl rfl rfl rfl) rfl (zd hns2 rfl (zl rfl) rfl (zd hns2 rfl (Qt_and32 rfl rfl) rfl (zd hns2 rfl (Qt_xor32 rfl rfl) rfl ?_)))))
  refine DL_e rfl rfl (zc (turn_c (k := 2) (by decide) (by decide)) rfl (fun x58 => ⟨SB, ?_⟩))
  refine DL_e rfl rfl (zc (turn_c (k := 13) (by decide) (by decide)) rfl (fun x60 => ⟨SB, ?_⟩))
  refine zd hns2 rfl (Qt_xor32 rfl rfl) rfl ?_
  refine DL_e rfl rfl (zc (turn_c (k := 22) (by decide) (by decide)) rfl (fun x63 => ⟨SB, ?_⟩))
  refine zd hns2 rfl (Qt_xor32 rfl rfl) rfl (zd hns2 rfl (Qt_add32 rfl rfl) rfl (zd hns2 rfl (za (.int .u32 _) rfl) rfl (DL_nil (zx (zR ?_)))))
  refine zq (zm (.int .u32 _) rfl) rfl (zq (zm (.int .u32 _) rfl) rfl (zq (Qt_add32 rfl rfl) rfl (zq (Qt_indexAddr_arrC (sz := 1) 0 0 rfl rfl Tryz.underlying223 rfl rfl rfl rfl) rfl (zq (zl rfl) rfl (zq (Qt_indexAddr_arrC (sz := 1) 1 1 rfl rfl Tryz.underlying223 rfl rfl rfl rfl) rfl ?_)))))
  refine zq (zl rfl) rfl (zq (Qt_indexAddr_arrC (sz := 1) 2 2 rfl rfl Tryz.underlying223 rfl rfl rfl rfl) rfl (zq (zl rfl) rfl (zq (Qt_indexAddr_arrC (sz := 1) 3 3 rfl rfl Tryz.underlying223 rfl rfl rfl rfl) rfl (zq (zl rfl) rfl (zq (zm (.int .u32 _) rfl) rfl ?_)))))
  refine zq (Qt_add32 rfl rfl) rfl (zq (Qt_indexAddr_arrC (sz := 1) 4 4 rfl rfl Tryz.underlying223 rfl rfl rfl rfl) rfl (zq (zl rfl) rfl (zq (Qt_indexAddr_arrC (sz := 1) 5 5 rfl rfl Tryz.underlying223 rfl rfl rfl rfl) rfl (zq (zl rfl) rfl (zq (Qt_indexAddr_arrC (sz := 1) 6 6 rfl rfl Tryz.underlying223 rfl rfl rfl rfl) rfl ?_)))))
  refine zq (zl rfl) rfl (zq (Qt_build_arr _ Tryz.underlying223 rfl rfl (fill8 _ _ _ _ _ _ _ _)) rfl ?_)
  rw [rnd_eq, ← rnds_succ]
  refine zN (zs rfl rfl (?_))
  refine zz (X_block (zx (zR ?_)))
  refine zq (Qt_add rfl rfl (by omega) (by omega)) rfl (Qmi rfl rfl (zz (X_loop _ (by repeat (first | with_reducible exact agree_refl | refine agree_upd rfl ?_ | refine agree_mix rfl ?_ | refine agree_setAll rfl ?_)) (⟨i + 1, rfl, rfl, by omega⟩) (by show 64 - (i + 1 : Int).toNat < 64 - (i : Int).toNat; omega) (SB))))
 have p19 := h19
 try simp only [dp] at p19
 have hi : i = 64 := by omega
 subst hi
 refine zY (zG (zW (zE (zx (zS (T2 ?_))))))
 refine Qmi rfl rfl (TX (zB ?_))
 refine T_loop [14, 102, 103, 104, 105, 106, 107, 108, 109, 110, 111, 112, 113] [102] (fun us H' => ∃ (j : Nat), us = [.int .i64 (j : Int)] ∧ blk b8 (.cells (rnds l s 64).cells 223 (0, 0)) :: blk b7 (.cells (wl (wpad l 64)).toArray 265 (0, 0)) :: blk b6 (.cells (wl (List.replicate 8 0)).toArray 223 (0, 0)) :: blk b3 (.cells (wl (addN s (rnds l s 64) j)).toArray 223 (0, 0)) :: H = H' ∧ j ≤ 8) (fun us => match us with | .int _ i :: _ => 8 - i.toNat | _ => 0) ⟨0, rfl, rfl, by omega⟩ (fun w hw => (SB w hw : St w0 (blk b8 (.cells (rnds l s 64).cells 223 (0, 0)) :: blk b7 (.cells (wl (wpad l 64)).toArray 265 (0, 0)) :: blk b6 (.cells (wl (List.replicate 8 0)).toArray 223 (0, 0)) :: blk b3 (.cells s.cells 223 (0, 0)) :: H) w)) ?_
 rintro τ1 _ _  ⟨j, rfl, rfl, hj0⟩ _
 refine T2 (zq (Qt_lss rfl rfl) rfl (TX (zS ?_)))
 refine zC rfl (fun h103 => ?_) (fun h103 => ?_)
 ·
  have p103 := h103
  try simp only [dp] at p103
  have hj : j < 8 := by omega
  refine zk (zx (zS (zB (T2 ?_))))
  refine Qmi rfl rfl (Qai rfl rfl (TX (T_draw [blk b8 (.cells (rnds l s 64).cells 223 (0, 0))] [(0, true), (1, true), (3, true), (4, true), (5, true), (2, false), (6, true), (7, true), (8, false)] (by kernel_rfl) (by kernel_rfl) rfl (by kernel_rfl) SB (fun hns3 => ?_))))
  refine zd hns3 rfl (zm (.int .i64 _) rfl) rfl (zd hns3 rfl (Qt_indexAddr_arr (sz := 1) rfl rfl Tryz.underlying223 rfl rfl (by omega) (by omega)) rfl (zd hns3 rfl (zm (.int .i64 _) rfl) rfl (zd hns3 rfl (Qt_indexAddr_arr (sz := 1) rfl rfl Tryz.underlying223 rfl rfl (by omega) (by omega)) rfl ?_)))
  have cB : CellAt (rnds l s 64).cells (0 + (j : Int).toNat * 1) (w32 (at32 (rnds l s 64).list j)) := cellAt32a (l := (rnds l s 64).list) (i := j) (by simp) hj
  refine zd hns3 rfl (zl rfl) rfl ?_
  have cA := cellAt32 (l := addN s (rnds l s 64) j) (n := 0 + (j : Int).toNat * 1) (i := j) (by simp) (addN_at s (rnds l s 64) j hj)
  refine DL_e rfl rfl (Ef_of_Qt (zl rfl) (⟨SB, ?_⟩))
  refine zd hns3 rfl (Qt_add32 rfl rfl) rfl (zd hns3 rfl (Qt_indexAddr_arr (sz := 1) rfl rfl Tryz.underlying223 rfl rfl (by omega) (by omega)) rfl ?_)
  have hput : Put (wl (addN s (rnds l s 64) j)).toArray (0 + (j : Int).toNat * 1) (w32 (at32 s.list j + at32 (rnds l s 64).list j)) (wl (addN s (rnds l s 64) (j + 1))).toArray := by have := putAt32 (l := addN s (rnds l s 64) j) (n := 0 + (j : Int).toNat * 1) (i := j) (x := at32 s.list j + at32 (rnds l s 64).list j) (by simp) (by rw [addN_len _ _ _ (by omega)]; exact hj); rwa [addN_set _ _ _ hj] at this
  refine DL_n rfl (Ef_store1 (.int .u32 _) rfl rfl (⟨SB, ?_⟩))
  refine DL_nil (X_block (zx (zR ?_)))
  refine zq (Qt_add rfl rfl (by omega) (by omega)) rfl (Qmi rfl rfl (zz (X_loop _ (by repeat (first | with_reducible exact agree_refl | refine agree_upd rfl ?_ | refine agree_mix rfl ?_ | refine agree_setAll rfl ?_)) (⟨j + 1, rfl, rfl, by omega⟩) (by show 8 - (j + 1 : Int).toNat < 8 - (j : Int).toNat; omega) (SB))))
 have p103 := h103
 try simp only [dp] at p103
 have hj : j = 8 := by omega
 subst hj
 rw [show (wl (addN s (rnds l s 64) 8)).toArray = (compress l s).cells from rfl]
 refine zY (zG (zW (zE (zx (T2 ?_)))))
 refine zq (zn rfl rfl) rfl ?_
 refine zN (zs rfl rfl (?_))
 refine TX (zQ ?_)
 exact zX () [_] Tryz.results132 ⟨⟨_, rfl, res_cellN rfl⟩, trivial⟩ rfl SB
instance putWholeH {n : Nat} {h g : Vector UInt8 n} : Put (hlist h).toArray 0 (.agg (hlist g).toArray) (hlist g).toArray := by
 have := Put.mid [] (hlist h) [] (cs := (hlist h).toArray) (o := 0) (n := n) (v := .agg (hlist g).toArray) (by simp) rfl (by simp) (by simp [Value.cells])
 simpa [Value.cells] using this
theorem hash_byte (s : S8) (i k : Nat) (hi : i < 8) (hk : k < 4) : IntKind.u8.wrap ((at32 s.list i >>> UInt32.ofNat (24 - 8 * k)).toNat : Int) = ((hashOf s)[4 * i + k]'(by omega)).toNat := by
 rw [show IntKind.u8.wrap (((at32 s.list i >>> UInt32.ofNat (24 - 8 * k)).toNat : Nat) : Int) = (((at32 s.list i >>> UInt32.ofNat (24 - 8 * k)).toNat % 256 : Nat) : Int) from by simp [IntKind.wrap, IntKind.bits, IntKind.signed]]
 simp only [hashOf, Vector.getElem_ofFn]
 rw [UInt8.toNat_ofNat', UInt32.toNat_shiftRight, UInt32.toNat_ofNat', Nat.shiftRight_eq_div_pow]
 rw [show (4 * i + k) / 4 = i by omega, show (4 * i + k) % 4 = k by omega, show (24 - 8 * k) % 2 ^ 32 % 32 = 24 - 8 * k by omega]

attribute [local irreducible] hashOf
set_option maxHeartbeats 1000000 in
theorem told_c8 {w0 : World} {H : List SA} {s : S8} :
 CT Tryz.prog w0 (H) 134 [.agg s.cells] (α := Unit) (fun _ => .agg (hlist (hashOf s)).toArray) (fun _ => H) := by
 refine CT_intro Tryz.func134 rfl Tryz.ntmps134 rfl ?_
 refine T2 ?_
 refine ze rfl (Ef_boxN rfl (fun b1 => ?_))
 refine ze rfl (Ef_allocN (fun b2 => ?_))
 refine T4 ?_
 refine ze rfl (Ef_allocN (fun b3 => ?_))
 refine TX (zS (T2 ?_))
 refine zq (zn rfl rfl) rfl (Qmi rfl rfl (TX (zB ?_)))
 refine T_loop [4, 5, 6, 8, 9, 10, 11, 12, 13, 14, 15, 16, 17, 18, 19, 20, 21, 22, 23, 24, 25, 26, 27] [8] (fun us H' => ∃ (i : Nat), us = [.int .i64 (i : Int)] ∧ blk b3 (.cells (hlist (hfirst (hashOf s) (4 * i))).toArray 40 (0, 0)) :: blk b2 (.cells (hlist (zeroV 32)).toArray 40 (0, 0)) :: blk b1 (.cells s.cells 223 (0, 0)) :: H = H' ∧ i ≤ 8) (fun us => match us with | .int _ i :: _ => 8 - i.toNat | _ => 0) ⟨0, rfl, rfl, by omega⟩ (fun w hw => by rw [show 4 * 0 = 0 from rfl, hfirst_zero]; exact SB w hw) ?_
 rintro τ0 _ _  ⟨i, rfl, rfl, hi0⟩ _
 refine T2 (zq (Qt_lss rfl rfl) rfl (TX (zS ?_)))
 refine zC rfl (fun h9 => ?_) (fun h9 => ?_)
 ·
  have p9 := h9
  try simp only [dp] at p9
  have hi : i < 8 := by omega
  refine zk (zx (zS (zB (T2 ?_))))
  refine Qmi rfl rfl (zq (Qt_index (w32 (at32 s.list i)) rfl rfl Tryz.underlying223 (by omega) (by omega) (by exact (cellAt32a (l := s.list) (n := (i : Int).toNat) (i := i) (by simp) hi).ok)) rfl (Qai rfl rfl (zq (za (.int .u32 _) rfl) rfl (T4 (Qmi rfl rfl ?_)))))
  refine TX (zB ?_)
  refine T_loop [6, 12, 13, 14, 15, 16, 17, 18, 19, 20, 21, 22, 23, 24, 25, 26] [12] (fun us H' => ∃ (k : Nat), us = [.int .i64 (k : Int)] ∧ blk b3 (.cells (hlist (hfirst (hashOf s) (4 * i + k))).toArray 40 (0, 0)) :: blk b2 (.cells (hlist (zeroV 32)).toArray 40 (0, 0)) :: blk b1 (.cells s.cells 223 (0, 0)) :: H = H' ∧ k ≤ 4) (fun us => match us with | .int _ i :: _ => 4 - i.toNat | _ => 0) ⟨0, rfl, rfl, by omega⟩ SB ?_
  rintro τ1 _ _  ⟨k, rfl, rfl, hk0⟩ _
  refine T2 (zq (Qt_lss rfl rfl) rfl (TX (zS ?_)))
  refine zC rfl (fun h13 => ?_) (fun h13 => ?_)
  ·
   have p13 := h13
   try simp only [dp] at p13
   have hk : k < 4 := by omega
   refine zk (zx (zS (zB (T2 ?_))))
   refine Qmi rfl rfl (Qai rfl rfl (TX (zR ?_)))
   refine Qmi rfl rfl (zq (Qt_mul rfl rfl (by omega) (by omega)) rfl (Qmi rfl rfl (zq (Qt_add rfl rfl (by omega) (by omega)) rfl (zq (zm (.int .u32 _) rfl) rfl (Qmi rfl rfl ?_)))))
   refine zq (Qt_mul rfl rfl (by omega) (by omega)) rfl (zq (Qt_sub rfl rfl (by omega) (by omega)) rfl (zq (Qt_shr32 (24 - 8 * k) rfl (by refine congrArg (Value.int .i64) ?_; omega) (by omega)) rfl (zq (Qt_val (Qt_conv rfl rfl Tryz.underlying5) (congrArg (Value.int .u8) (hash_byte s i k hi hk))) rfl (zq (Qt_indexAddr_arr (sz := 1) rfl rfl Tryz.underlying40 rfl rfl (by omega) (by omega)) rfl ?_))))
   have hput : Put (hlist (hfirst (hashOf s) (4 * i + k))).toArray (0 + (4 * (i : Int) + (k : Int)).toNat * 1) (.int .u8 (((hashOf s)[4 * i + k]).toNat : Int)) (hlist (hfirst (hashOf s) (4 * i + (k + 1)))).toArray := by have := putAtH (h := hfirst (hashOf s) (4 * i + k)) (m := 0 + (4 * (i : Int) + (k : Int)).toNat * 1) (i := 4 * i + k) (c := (hashOf s)[4 * i + k]) (by omega) (by omega); rwa [hfirst_set _ _ (by omega)] at this
   refine zN (Ef_store1 (.int .u8 _) rfl rfl (?_))
   refine zz (X_block (zx (zR ?_)))
   refine zq (Qt_add rfl rfl (by omega) (by omega)) rfl (Qmi rfl rfl (zz (X_loop _ (by repeat (first | with_reducible exact agree_refl | refine agree_upd rfl ?_ | refine agree_mix rfl ?_ | refine agree_setAll rfl ?_)) (⟨k + 1, rfl, rfl, by omega⟩) (by show 4 - (k + 1 : Int).toNat < 4 - (k : Int).toNat; omega) (SB))))
  have p13 := h13
  try simp only [dp] at p13
  have hk : k = 4 := by omega
  subst hk
  refine zY (zG (zW (zE (X_block (zx (zR ?_))))))
  refine zq (Qt_add rfl rfl (by omega) (by omega)) rfl (Qmi rfl rfl (zz (X_loop _ (by repeat (first | with_reducible exact agree_refl | refine agree_upd rfl ?_ | refine agree_mix rfl ?_ | refine agree_setAll rfl ?_)) (⟨i + 1, rfl, rfl, by omega⟩) (by show 8 - (i + 1 : Int).toNat < 8 - (i : Int).toNat; omega) (SB))))
 have p9 := h9
 try simp only [dp] at p9
 have hi : i = 8 := by omega
 subst hi
 rw [show 4 * 8 = 32 from rfl, hfirst_all]
 refine zY (zG (zW (zE (zx (T2 ?_)))))
 refine zq (zn rfl rfl) rfl ?_
 refine zN (zs rfl rfl (?_))
 refine TX (zQ ?_)
 exact zX () [_] Tryz.results134 ⟨⟨_, rfl, res_cellN rfl⟩, trivial⟩ rfl SB
set_option maxHeartbeats 1000000 in
theorem padded_c {w0 : World} {H : List SA} {a : Option Addr} {l : List UInt8} {c n : Nat} [hr : RdB w0 H (.slice a l.length c) l] (hl : l.length ≤ 4294967000) (hn : n ≤ 4294967000) :
 CT Tryz.prog w0 (H) 133 [.slice a l.length c, .int .i64 (n : Int)] (α := AC) (fun y => .slice y.a (padded l n).length y.c) (fun y => row (.slice y.a (padded l n).length y.c) 5 1 (bytesV (padded l n)) :: H) := by
 refine CT_intro Tryz.func133 rfl Tryz.ntmps133 rfl ?_
 refine T2 (Qas rfl rfl (T4 ?_))
 refine ze rfl (Ef_slice0 (fun a6 c6 => ?_))
 refine Qms rfl rfl ?_
 refine ze rfl (Ef_appendB (sv := .slice _ _ _) (xv := .slice _ _ _) rfl rfl (by simp; omega) rfl (fun a8 c8 => ?_))
 refine ze rfl (Ef_slice1 (v := .int .u8 128) rfl (fun a9 c9 => ?_))
 refine ze rfl (Ef_appendb (n := 128) (sv := .slice _ _ _) (xv := .slice _ _ _) rfl rfl (by decide) (by simp; omega) rfl (fun a10 c10 => ?_))
 rw [List.nil_append, show u8Of 128 = 128 from rfl]
 refine Qas rfl rfl (TX (zS (zB ?_)))
 refine T_loopg (m0 := zpad l.length) [5, 11, 12, 13, 14, 15, 16, 17] [5] (fun us H' m => ∃ (j : Nat) (a : Option Addr) (c : Nat), us = [.slice a (l ++ [128] ++ List.replicate j 0).length c] ∧ row (.slice a (l ++ [128] ++ List.replicate j 0).length c) 5 1 (bytesV (l ++ [128] ++ List.replicate j 0)) :: H = H' ∧ j ≤ zpad l.length ∧ m = zpad l.length - j) ⟨0, a10, c10, by rw [List.replicate_zero, List.append_nil]; rfl, by rw [List.replicate_zero, List.append_nil], by omega, rfl⟩ SB ?_
 rintro τ0 _ _ m ⟨j, a1, c1, rfl, rfl, hj, rfl⟩ _
 refine zS (T2 ?_)
 refine Qms rfl rfl (zq (zL rfl Tryz.underlying41) rfl (zq (Qt_val (Qt_rem rfl rfl (by decide)) (congrArg (Value.int .i64) (tmod_nat _ 64))) rfl (zq (Qt_neq rfl rfl) rfl (TX (zC rfl (fun h14 => ?_) (fun h14 => ?_))))))
 ·
  have p14 := h14
  try simp only [dp] at p14
  have hjz : j < zpad l.length := by
   have hne : ((l ++ [128] ++ List.replicate j 0).length % 64 : Nat) ≠ 56 := by omega
   simp only [List.length_append, List.length_replicate, List.length_singleton] at hne
   rcases Nat.lt_or_ge j (zpad l.length) with h | h
   · exact h
   · have : j = zpad l.length := by omega
     subst this
     exfalso; apply hne; unfold zpad; omega
  refine zk (zx (zB (zR ?_)))
  refine Qms rfl rfl ?_
  refine ze rfl (Ef_slice1 (v := .int .u8 0) rfl (fun a16 c16 => ?_))
  refine ze rfl (Ef_appendb (n := 0) (sv := .slice _ _ _) (xv := .slice _ _ _) rfl rfl (by decide) (by have hz : zpad l.length < 64 := Nat.mod_lt _ (by decide); simp; omega) rfl (fun a17 c17 => ?_))
  rw [show u8Of 0 = 0 from rfl, List.append_assoc (l ++ [128]), ← List.replicate_succ']
  refine Qas rfl rfl (zz (X_block ?_))
  refine X_loopg _ (by repeat (first | with_reducible exact agree_refl | refine agree_upd rfl ?_ | refine agree_mix rfl ?_ | refine agree_setAll rfl ?_)) (⟨j + 1, a17, c17, rfl, rfl, by omega, rfl⟩) (by omega) (SB)
 have p14 := h14
 try simp only [dp] at p14
 have hjz : j = zpad l.length := by
  have hne : ((l ++ [128] ++ List.replicate j 0).length % 64 : Nat) = 56 := by omega
  simp only [List.length_append, List.length_replicate, List.length_singleton] at hne
  unfold zpad at hj ⊢; omega
 subst hjz
 refine zY (zG (X_loopg_exit (zE (zx (T2 ?_)))))
 refine Qms rfl rfl (Qmi rfl rfl (zq (Qt_conv_u64 rfl rfl Tryz.underlying23 (by omega) (by omega)) rfl (zq (Qt_val (Qt_mulw rfl rfl) (congrArg (Value.int .u64) (show IntKind.u64.wrap ((n : Int) * 8) = ((8 * n : Nat) : Int) from by rw [wrap_u64 (by omega) (by omega)]; omega))) rfl ?_)))
 refine ze rfl (zc (putFixed_c (x := ((8 * n : Nat) : Int)) (n := 8) (by have hz : zpad l.length < 64 := Nat.mod_lt _ (by decide); simp; omega) (by omega)) rfl (fun x22 => ?_))
 refine Qas rfl rfl (TX (zQ ?_))
 have e : putFixed (l ++ [128] ++ List.replicate (zpad l.length) 0) ((8 * n : Nat) : Int) 8 = padded l n := by rw [putFixed, if_pos (show wideB 8 = true from rfl), Int.toNat_natCast]; rfl
 simp only [e]
 exact zX x22 [_] Tryz.results133 ⟨rfl, trivial⟩ rfl SB
theorem drop64 (l : List UInt8) (k : Nat) : (l.drop (64 * k)).drop 64 = l.drop (64 * (k + 1)) := by rw [List.drop_drop]; congr 1
set_option maxHeartbeats 1000000 in
theorem sum_c {w0 : World} {H : List SA} {a : Option Addr} {l : List UInt8} {c : Nat} [hr : RdB w0 H (.slice a l.length c) l] (hl : l.length ≤ 4294967000) :
 CT Tryz.prog w0 (H) 89 [.slice a l.length c] (α := Unit) (fun _ => .agg (hlist (sha l)).toArray) (fun _ => H) := by
 refine CT_intro Tryz.func89 rfl Tryz.ntmps89 rfl ?_
 refine T2 ?_
 refine ze rfl (Ef_allocN (fun b2 => ?_))
 refine T4 ?_
 refine ze rfl (zc (start_c) rfl (fun x6 => ?_))
 refine ze rfl (zc (rounds_c) rfl (fun x7 => ?_))
 refine ze rfl (Ef_allocN (fun b3 => ?_))
 refine zN (zs rfl rfl (?_))
 refine zq (za (.pointer _) rfl) rfl (T4 (Qms rfl rfl (zq (zL rfl Tryz.underlying41) rfl (Qai rfl rfl (TX (zS (zB ?_)))))))
 refine T_loop [0, 10, 11, 12, 13, 14, 15, 16, 17, 18, 19] [0] (fun us H' => ∃ (q : Nat) (a : Option Addr) (c : Nat), us = [.slice a (l.drop (64 * q)).length c] ∧ blk b3 (.cells (shaB q l S8.init).cells 223 (0, 0)) :: blk x7 (.cells (wl Kc).toArray 265 (0, 0)) :: blk b2 (.cells (hlist (zeroV 32)).toArray 40 (0, 0)) :: H = H' ∧ 64 * q ≤ l.length ∧ RdB w0 H (.slice a (l.drop (64 * q)).length c) (l.drop (64 * q))) (fun us => match us with | .slice _ n _ :: _ => n | _ => 0) ⟨0, a, c, rfl, rfl, by omega, hr⟩ (fun w hw => by rw [show shaB 0 l S8.init = S8.init from rfl]; exact SB w hw) ?_
 rintro τ0 _ _  ⟨q, a1, c1, rfl, rfl, hq, rq⟩ _
 refine zS (T2 ?_)
 refine Qms rfl rfl (zq (zL rfl Tryz.underlying41) rfl (zq (Qt_geq rfl rfl) rfl (TX (zC rfl (fun h12 => ?_) (fun h12 => ?_)))))
 ·
  have p12 := h12
  try simp only [dp] at p12
  have hq64 : 64 ≤ (l.drop (64 * q)).length := by omega
  rw [List.length_drop] at hq64
  refine zk (zx (zB (zS ?_)))
  refine T_draw (blk x7 (.cells (wl Kc).toArray 265 (0, 0)) :: H) [(1, true), (2, true), (3, true), (0, false), (4, false), (5, false)] (by kernel_rfl) (by kernel_rfl) rfl (by kernel_rfl) SB (fun hns0 => ?_)
  refine zd hns0 rfl (zm (.slice _ _ _) rfl) rfl (zd hns0 rfl (Qt_sliceB_h (l := l.drop (64 * q)) 64 rfl rfl (by simp; omega)) rfl (zd hns0 rfl (zm (.pointer _) rfl) rfl ?_))
  refine DL_e rfl rfl (Ef_of_Qt (zn rfl rfl) (⟨SB, ?_⟩))
  refine DL_e rfl rfl (zc (block_c (l := (l.drop (64 * q)).take 64) (by simp; omega)) rfl (fun x17 => ⟨SB, ?_⟩))
  rw [← shaB_snoc q l S8.init (by omega)]
  refine DL_n rfl (zs rfl rfl (⟨SB, ?_⟩))
  refine DL_nil (zx (zR ?_))
  refine Qms rfl rfl (zq (Qt_sliceB_l (l := l.drop (64 * q)) 64 rfl rfl (by simp; omega)) rfl ?_)
  have rq' := RdB.dropI (h := rq) (i := 64)
  rw [drop64] at rq'
  rw [drop64]
  refine Qas rfl rfl (zz (X_block ?_))
  refine X_loop _ (by repeat (first | with_reducible exact agree_refl | refine agree_upd rfl ?_ | refine agree_mix rfl ?_ | refine agree_setAll rfl ?_)) (⟨q + 1, _, _, rfl, rfl, by omega, rq'⟩) (by show (l.drop (64 * (q + 1))).length < (l.drop (64 * q)).length; simp; omega) (SB)
 have p12 := h12
 try simp only [dp] at p12
 refine zY (zG (zW (zE (zx (zS (T2 ?_))))))
 refine Qms rfl rfl (Qmi rfl rfl ?_)
 refine ze rfl (zc (padded_c (l := l.drop (64 * q)) (n := l.length) (by simp; omega) hl) rfl (fun x22 => ?_))
 refine Qas rfl rfl (TX (zB ?_))
 refine T_loop [0, 23, 24, 25, 26, 27, 28, 29, 30, 31, 32] [0] (fun us H' => ∃ (k : Nat) (a : Option Addr) (c : Nat), us = [.slice a ((padded (l.drop (64 * q)) l.length).drop (64 * k)).length c] ∧ blk b3 (.cells (shaB k (padded (l.drop (64 * q)) l.length) (shaB q l S8.init)).cells 223 (0, 0)) :: blk x7 (.cells (wl Kc).toArray 265 (0, 0)) :: blk b2 (.cells (hlist (zeroV 32)).toArray 40 (0, 0)) :: row (.slice x22.a (padded (l.drop (64 * q)) l.length).length x22.c) 5 1 (bytesV (padded (l.drop (64 * q)) l.length)) :: H = H' ∧ 64 * k ≤ (padded (l.drop (64 * q)) l.length).length ∧ RdB w0 (row (.slice x22.a (padded (l.drop (64 * q)) l.length).length x22.c) 5 1 (bytesV (padded (l.drop (64 * q)) l.length)) :: H) (.slice a ((padded (l.drop (64 * q)) l.length).drop (64 * k)).length c) ((padded (l.drop (64 * q)) l.length).drop (64 * k))) (fun us => match us with | .slice _ n _ :: _ => n | _ => 0) ⟨0, x22.a, x22.c, rfl, rfl, by omega, by rw [show 64 * 0 = 0 from rfl, List.drop_zero]; infer_instance⟩ (fun w hw => by rw [show shaB 0 (padded (l.drop (64 * q)) l.length) (shaB q l S8.init) = shaB q l S8.init from rfl]; exact SB w hw) ?_
 rintro τ1 _ _  ⟨k, a2, c2, rfl, rfl, hk, rk⟩ _
 refine zS (T2 ?_)
 refine Qms rfl rfl (zq (zL rfl Tryz.underlying41) rfl (zq (Qt_gtr rfl rfl) rfl (TX (zC rfl (fun h25 => ?_) (fun h25 => ?_)))))
 ·
  have p25 := h25
  try simp only [dp] at p25
  have hk0 : 0 < ((padded (l.drop (64 * q)) l.length).drop (64 * k)).length := by omega
  rw [List.length_drop] at hk0
  have hpm := padded_mod (l.drop (64 * q)) l.length
  refine zk (zx (zS (zB ?_)))
  refine T_draw (blk x7 (.cells (wl Kc).toArray 265 (0, 0)) :: row (.slice x22.a (padded (l.drop (64 * q)) l.length).length x22.c) 5 1 (bytesV (padded (l.drop (64 * q)) l.length)) :: H) [(1, true), (2, true), (3, true), (0, false), (4, false), (5, false)] (by kernel_rfl) (by kernel_rfl) rfl (by kernel_rfl) SB (fun hns1 => ?_)
  refine zd hns1 rfl (zm (.slice _ _ _) rfl) rfl (zd hns1 rfl (Qt_sliceB_h (l := (padded (l.drop (64 * q)) l.length).drop (64 * k)) 64 rfl rfl (by simp; omega)) rfl (zd hns1 rfl (zm (.pointer _) rfl) rfl ?_))
  refine DL_e rfl rfl (Ef_of_Qt (zn rfl rfl) (⟨SB, ?_⟩))
  refine DL_e rfl rfl (zc (block_c (l := ((padded (l.drop (64 * q)) l.length).drop (64 * k)).take 64) (by simp; omega)) rfl (fun x32 => ⟨SB, ?_⟩))
  rw [← shaB_snoc k _ _ (by omega)]
  refine DL_n rfl (zs rfl rfl (⟨SB, ?_⟩))
  refine DL_nil (X_block (zx (zR ?_)))
  refine Qms rfl rfl (zq (Qt_sliceB_l (l := (padded (l.drop (64 * q)) l.length).drop (64 * k)) 64 rfl rfl (by simp; omega)) rfl ?_)
  have rk' := RdB.dropI (h := rk) (i := 64)
  rw [drop64] at rk'
  rw [drop64]
  refine Qas rfl rfl (zz (X_loop _ (by repeat (first | with_reducible exact agree_refl | refine agree_upd rfl ?_ | refine agree_mix rfl ?_ | refine agree_setAll rfl ?_)) (⟨k + 1, _, _, rfl, rfl, by omega, rk'⟩) (by show ((padded (l.drop (64 * q)) l.length).drop (64 * (k + 1))).length < ((padded (l.drop (64 * q)) l.length).drop (64 * k)).length; simp; omega) (SB)))
 have p25 := h25
 try simp only [dp] at p25
 have hk0 : ¬ 0 < ((padded (l.drop (64 * q)) l.length).drop (64 * k)).length := by omega
 rw [List.length_drop] at hk0
 have hke : k = (padded (l.drop (64 * q)) l.length).length / 64 := by omega
 subst hke
 have hsp := sha_split l q hq
 refine zY (zG (zW (zE (zx (T2 ?_)))))
 refine zq (zn rfl rfl) rfl ?_
 refine ze rfl (zc (told_c8) rfl (fun x34 => ?_))
 refine zN (zs rfl rfl (?_))
 refine TX (zQ ?_)
 exact zX () [_] Tryz.results89 ⟨⟨_, rfl, res_cellN rfl⟩, trivial⟩ (by rw [hsp]; rfl) SB
end Go.Proofs.YtgeknnclmhfjlaaGreatDoor
