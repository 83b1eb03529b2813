/- Walks: OpenOf of package seals, keys by their parts, tables of keys. -/
import Derived.Test.YtpdpapcmfnhgpaaLpR
import Derived.Test.YtpdpapcmfnhgpaaViR
namespace Go.Proofs.Ytpdpapcmfnhgpaa
open Go.RowKit Go.Sx
set_option maxRecDepth 100000
set_option linter.unusedSimpArgs false
set_option linter.unusedVariables false
theorem openF_c {w0 : World} {H : List SA} {sa : Option Addr} {sc : Nat} {ls : List BS} {rt : Sl} [rk : RdC w0 H (.slice sa ls.length sc) 1 (ls.map BS.val)] [rke : RdE w0 H ls] (hkl : ∀ x ∈ ls, x.l.length ≤ 4294967000) {a : Option Addr} {l : List UInt8} {c : Nat} [hr : RdB w0 H (.slice a l.length c) l] (hl : l.length ≤ 4294960000) :
 CT Try.prog w0 H 40 [.agg (KeysV.mk ⟨sa, sc, ls⟩ rt).cells, .slice a l.length c] (α := MsgV × List Nat) (fun y => .tuple #[.agg y.1.cells, .int .i64 (openK (ls.map BS.l) l).1]) (fun y => pu (y.1.abs = (openK (ls.map BS.l) l).2) :: dat y.2 (Deep.leads y.1) :: H) :=
 open_c (k := ⟨⟨sa, sc, ls⟩, rt⟩) (rk := rk) (rke := rke) hkl hl
theorem sealF_c {w0 : World} {H : List SA} {sa : Option Addr} {sc : Nat} {ls : List BS} {rt : Sl} [rk : RdC w0 H (.slice sa ls.length sc) 1 (ls.map BS.val)] [rke : RdE w0 H ls] (hkl : ∀ x ∈ ls, x.l.length ≤ 4294967000) {m : MsgV} (M : MsgD) [rb : RdB w0 H (.slice m.body.a m.body.l.length m.body.c) m.body.l] [rc : RdC w0 H (.slice m.parts.a m.parts.ls.length m.parts.c) 1 (m.parts.ls.map BS.val)] [re : RdE w0 H m.parts.ls] (hM : m.abs = M) (hs : SmallM M) :
 CT Try.prog w0 H 71 [.agg (KeysV.mk ⟨sa, sc, ls⟩ rt).cells, .agg m.cells] (α := AC) (fun y => .tuple #[.slice y.a (sealK (ls.map BS.l) M).1.length y.c, .int .i64 (sealK (ls.map BS.l) M).2]) (fun y => row (.slice y.a (sealK (ls.map BS.l) M).1.length y.c) 5 1 (bytesV (sealK (ls.map BS.l) M).1) :: H) := by
 subst hM
 exact seal_c (k := ⟨⟨sa, sc, ls⟩, rt⟩) (rk := rk) (rke := rke) hkl hs
attribute [local irreducible] openK
def keyT (n : Nat) : List (List UInt8) := (List.range n).map fun i => [UInt8.ofNat i]
theorem keyT_succ (n : Nat) : keyT (n + 1) = keyT n ++ [[UInt8.ofNat n]] := by simp [keyT, List.range_succ]
theorem keyT_len (n : Nat) : (keyT n).length = n := by simp [keyT]
theorem keyT_small {ls : List BS} {n : Nat} (h : ls.map BS.l = keyT n) : ls.length = n ∧ ∀ x ∈ ls, x.l.length ≤ 4294967000 := by
 refine ⟨by have := congrArg List.length h; simpa [keyT_len] using this, fun x hx => ?_⟩
 have : x.l ∈ keyT n := by rw [← h]; exact List.mem_map.2 ⟨x, hx, rfl⟩
 obtain ⟨i, -, hi⟩ := List.mem_map.1 this
 rw [← hi]; show 1 ≤ 4294967000; decide
theorem St.datPS {w0 w : World} {H : List SA} {a : Option Addr} {c : Nat} {ls : List BS} {fp : List Nat} {e : TypeId} (h : St w0 (row (.slice a ls.length c) e 1 (ls.map BS.val) :: eachA fp ls :: H) w) : ∃ fp, St w0 (dat fp (Deep.leads (PS.mk a c ls)) :: H) w := by
 have h1 : St w0 (eachA fp ls :: row (.slice a ls.length c) e 1 (ls.map BS.val) :: H) w := Subs.st inferInstance w h
 have h2 := St.datEach h1
 have h3 : St w0 (row (.slice a ls.length c) e 1 (ls.map BS.val) :: dat fp ⟨ls, [], []⟩ :: H) w := Subs.st inferInstance w h2
 exact ⟨_, St.datP (x := ⟨a, c, ls⟩) h3⟩
instance RdC.datK {w0 : World} {H : List SA} {fp : List Nat} {a : Option Addr} {c : Nat} {ls : List BS} : RdC w0 (dat fp (Deep.leads (PS.mk a c ls)) :: H) (.slice a ls.length c) 1 (ls.map BS.val) := RdC.ofPS (x := ⟨a, c, ls⟩)
instance RdE.datK {w0 : World} {H : List SA} {fp : List Nat} {a : Option Addr} {c : Nat} {ls : List BS} : RdE w0 (dat fp (Deep.leads (PS.mk a c ls)) :: H) ls := RdE.ofPS (x := ⟨a, c, ls⟩)

end Go.Proofs.Ytpdpapcmfnhgpaa
