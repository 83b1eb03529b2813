/-
  No cell of these rows narrows 'for every input' (looked for: loops, veiled, ifaces, maps, wideKeys, modest, calm, conditions, laid).
  DERIVED. THE GIVEN ROWS OF THIS SEAT. 7 by the template 'for every input the law returns true; each argument reads behind the call as it read before'; 0 by the template 'total and deterministic' (their statements: YtpdpapcmfnhgpaaTotals.lean).
  GIVEN WITH THE SEED: the statements are not yours to turn. If you find one false, say at which input.
  Laid BY PROGRAM, IN A SANDBOX (cutbox-rows.mjs): the forced cells as the released guide's own fill.sh prints them over the translation 2f4c42104ceef497… (all of the seat's roots in one cut). By AI agents, Wed Nov 11 2026. No macro, syntax, notation, axiom, sorry.
-/
import Derived.Test.YtpdpapcmfnhgpaaChecked
import GoSem.Claim
import GoSem.ClaimJoined
import GoSem.ClaimMapViews
import Derived.JoinedTies
import Derived.KernelRfl
namespace Go.Proofs.Ytpdpapcmfnhgpaa
/- THE CELL 'sum', in the pinned program and in every row, IS THE sha256 OF THE DUMP (.gsa) THAT YtpdpapcmfnhgpaaProg.lean LOADS. Nothing in Lean hashes anything: it is a label: what it is worth is what the hold of that sum in a sandbox is worth. -/
noncomputable def Try.pinned : Pinned := { name := "ytpdpapcmfnhgpaa", sum := "2f4c42104ceef4976f718e309c6431b6c2ca1c4de4ea88677bd982025f71109f", checked := Try.checked }
namespace Rows
def none {H : Type} : Left H := { results := [], args := [] }

/-- 'consistorylaw22.XferTells': WHATEVER THE INPUT: true; the input reads as it did. -/
def xferTellsSpec : ChangeSpec := { name := "xferTells", fn := fun _ => fun
  | [d1, d2, d3] => { results := [.lit (.bool true)], args := [d1, d2, d3] }
  | _ => none }
def xferTellsRow : OpenClaim := { program := "ytpdpapcmfnhgpaa", sum := "2f4c42104ceef4976f718e309c6431b6c2ca1c4de4ea88677bd982025f71109f", func := "consistory/consistorylaw22.XferTells", spec := "xferTells", unfollowed := true, recurses := true, plainKeys := false, apart := false }
def XferTellsSaid : Prop := xferTellsRow.holds Try.pinned (OpenSpec.ofChange xferTellsSpec)

/-- ITS FALSE NEIGHBOUR: 'it returns false'. Refute it at one input. -/
def xferTellsWrong : ChangeSpec := { name := "xferTells", fn := fun _ => fun
  | [d1, d2, d3] => { results := [.lit (.bool false)], args := [d1, d2, d3] }
  | _ => none }
def XferTellsWrongFalsely : Prop := xferTellsRow.holds Try.pinned (OpenSpec.ofChange xferTellsWrong)

/-- 'consistorylaw22.XferNil': WHATEVER THE INPUT: true; the input reads as it did. -/
def xferNilSpec : ChangeSpec := { name := "xferNil", fn := fun _ => fun
  | [d] => { results := [.lit (.bool true)], args := [d] }
  | _ => none }
def xferNilRow : OpenClaim := { program := "ytpdpapcmfnhgpaa", sum := "2f4c42104ceef4976f718e309c6431b6c2ca1c4de4ea88677bd982025f71109f", func := "consistory/consistorylaw22.XferNil", spec := "xferNil", unfollowed := true, recurses := true, plainKeys := false, apart := false }
def XferNilSaid : Prop := xferNilRow.holds Try.pinned (OpenSpec.ofChange xferNilSpec)

/-- ITS FALSE NEIGHBOUR: 'it returns false'. Refute it at one input. -/
def xferNilWrong : ChangeSpec := { name := "xferNil", fn := fun _ => fun
  | [d] => { results := [.lit (.bool false)], args := [d] }
  | _ => none }
def XferNilWrongFalsely : Prop := xferNilRow.holds Try.pinned (OpenSpec.ofChange xferNilWrong)

/-- 'consistorylaw22.XferOld': WHATEVER THE INPUT: true; the input reads as it did. -/
def xferOldSpec : ChangeSpec := { name := "xferOld", fn := fun _ => fun
  | [d1, d2] => { results := [.lit (.bool true)], args := [d1, d2] }
  | _ => none }
def xferOldRow : OpenClaim := { program := "ytpdpapcmfnhgpaa", sum := "2f4c42104ceef4976f718e309c6431b6c2ca1c4de4ea88677bd982025f71109f", func := "consistory/consistorylaw22.XferOld", spec := "xferOld", unfollowed := true, recurses := true, plainKeys := false, apart := false }
def XferOldSaid : Prop := xferOldRow.holds Try.pinned (OpenSpec.ofChange xferOldSpec)

/-- ITS FALSE NEIGHBOUR: 'it returns false'. Refute it at one input. -/
def xferOldWrong : ChangeSpec := { name := "xferOld", fn := fun _ => fun
  | [d1, d2] => { results := [.lit (.bool false)], args := [d1, d2] }
  | _ => none }
def XferOldWrongFalsely : Prop := xferOldRow.holds Try.pinned (OpenSpec.ofChange xferOldWrong)

/-- 'consistorylaw24.ClientNil': WHATEVER THE INPUT: true; the input reads as it did. -/
def clientNilSpec : ChangeSpec := { name := "clientNil", fn := fun _ => fun
  | [d1, d2, d3] => { results := [.lit (.bool true)], args := [d1, d2, d3] }
  | _ => none }
def clientNilRow : OpenClaim := { program := "ytpdpapcmfnhgpaa", sum := "2f4c42104ceef4976f718e309c6431b6c2ca1c4de4ea88677bd982025f71109f", func := "consistory/consistorylaw24.ClientNil", spec := "clientNil", unfollowed := true, recurses := true, plainKeys := false, apart := false }
def ClientNilSaid : Prop := clientNilRow.holds Try.pinned (OpenSpec.ofChange clientNilSpec)

/-- ITS FALSE NEIGHBOUR: 'it returns false'. Refute it at one input. -/
def clientNilWrong : ChangeSpec := { name := "clientNil", fn := fun _ => fun
  | [d1, d2, d3] => { results := [.lit (.bool false)], args := [d1, d2, d3] }
  | _ => none }
def ClientNilWrongFalsely : Prop := clientNilRow.holds Try.pinned (OpenSpec.ofChange clientNilWrong)

/-- 'consistorylaw24.ClientNeeds': WHATEVER THE INPUT: true; the input reads as it did. -/
def clientNeedsSpec : ChangeSpec := { name := "clientNeeds", fn := fun _ => fun
  | [d1, d2] => { results := [.lit (.bool true)], args := [d1, d2] }
  | _ => none }
def clientNeedsRow : OpenClaim := { program := "ytpdpapcmfnhgpaa", sum := "2f4c42104ceef4976f718e309c6431b6c2ca1c4de4ea88677bd982025f71109f", func := "consistory/consistorylaw24.ClientNeeds", spec := "clientNeeds", unfollowed := true, recurses := true, plainKeys := false, apart := false }
def ClientNeedsSaid : Prop := clientNeedsRow.holds Try.pinned (OpenSpec.ofChange clientNeedsSpec)

/-- ITS FALSE NEIGHBOUR: 'it returns false'. Refute it at one input. -/
def clientNeedsWrong : ChangeSpec := { name := "clientNeeds", fn := fun _ => fun
  | [d1, d2] => { results := [.lit (.bool false)], args := [d1, d2] }
  | _ => none }
def ClientNeedsWrongFalsely : Prop := clientNeedsRow.holds Try.pinned (OpenSpec.ofChange clientNeedsWrong)

/-- 'consistorylaw24.ClientFresh': WHATEVER THE INPUT: true; the input reads as it did. -/
def clientFreshSpec : ChangeSpec := { name := "clientFresh", fn := fun _ => fun
  | [d] => { results := [.lit (.bool true)], args := [d] }
  | _ => none }
def clientFreshRow : OpenClaim := { program := "ytpdpapcmfnhgpaa", sum := "2f4c42104ceef4976f718e309c6431b6c2ca1c4de4ea88677bd982025f71109f", func := "consistory/consistorylaw24.ClientFresh", spec := "clientFresh", unfollowed := true, recurses := true, plainKeys := false, apart := false }
def ClientFreshSaid : Prop := clientFreshRow.holds Try.pinned (OpenSpec.ofChange clientFreshSpec)

/-- ITS FALSE NEIGHBOUR: 'it returns false'. Refute it at one input. -/
def clientFreshWrong : ChangeSpec := { name := "clientFresh", fn := fun _ => fun
  | [d] => { results := [.lit (.bool false)], args := [d] }
  | _ => none }
def ClientFreshWrongFalsely : Prop := clientFreshRow.holds Try.pinned (OpenSpec.ofChange clientFreshWrong)

/-- 'consistorylaw19.StopsBound': WHATEVER THE INPUT: true; the input reads as it did. -/
def stopsBoundSpec : ChangeSpec := { name := "stopsBound", fn := fun _ => fun
  | [d1, d2] => { results := [.lit (.bool true)], args := [d1, d2] }
  | _ => none }
def stopsBoundRow : OpenClaim := { program := "ytpdpapcmfnhgpaa", sum := "2f4c42104ceef4976f718e309c6431b6c2ca1c4de4ea88677bd982025f71109f", func := "consistory/consistorylaw19.StopsBound", spec := "stopsBound", unfollowed := true, recurses := true, plainKeys := false, apart := false }
def StopsBoundSaid : Prop := stopsBoundRow.holds Try.pinned (OpenSpec.ofChange stopsBoundSpec)

/-- ITS FALSE NEIGHBOUR: 'it returns false'. Refute it at one input. -/
def stopsBoundWrong : ChangeSpec := { name := "stopsBound", fn := fun _ => fun
  | [d1, d2] => { results := [.lit (.bool false)], args := [d1, d2] }
  | _ => none }
def StopsBoundWrongFalsely : Prop := stopsBoundRow.holds Try.pinned (OpenSpec.ofChange stopsBoundWrong)

/- THE SECOND FORM. 'bulk': how many values and letters a reading holds, each counted each time it is reached (what is shared counts as often as it is met; a slice's spare places count too). A statement '..UptoSaid' is the law's where the arguments, and the package variables that the reading takes, are together of bulk at most 1048576: NARROWER than '..Said'. Prove '..Said' where nothing that the law and all that it calls make is longer than what came in: it says more and counts as full. Else prove '..UptoSaid'. A law counts once. -/
mutual
def uptoBulk {H : Type} : DataW H → Nat
  | .lit (.string bytes) => bytes.length + 1
  | .lit _ => 1
  | .nil => 1
  | .ptr d => uptoBulk d + 1
  | .slice elems spare => uptoBulkAll elems + uptoBulkAll spare + 1
  | .agg parts => uptoBulkAll parts + 1
  | .iface _ d => uptoBulk d + 1
  | .map entries => uptoBulkEntries entries + 1
  | .held _ => 1
def uptoBulkAll {H : Type} : List (DataW H) → Nat
  | [] => 0
  | d :: r => uptoBulk d + uptoBulkAll r
def uptoBulkEntries {H : Type} : List (Lit × DataW H) → Nat
  | [] => 0
  | x :: r => uptoBulkEntry x + uptoBulkEntries r
def uptoBulkEntry {H : Type} : Lit × DataW H → Nat
  | (.string bytes, d) => bytes.length + uptoBulk d + 1
  | (_, d) => uptoBulk d + 1
 end
def uptoSmall : (H : Type) → List (DataW H) → Bool := fun _ ds => decide (uptoBulkAll ds ≤ 1048576)
def OpenSpec.upto (s : _root_.Go.ChangeSpec) : _root_.Go.OpenSpec := { _root_.Go.OpenSpec.ofChange s with cond := some uptoSmall }

/-- 'consistorylaw22.XferTells', WHERE WHAT IT READS IS OF BULK AT MOST 1048576: true; the input reads as it did. -/
def xferTellsUptoRow : OpenClaim := { program := "ytpdpapcmfnhgpaa", sum := "2f4c42104ceef4976f718e309c6431b6c2ca1c4de4ea88677bd982025f71109f", func := "consistory/consistorylaw22.XferTells", spec := "xferTells", unfollowed := true, recurses := true, plainKeys := false, apart := false, narrowed := true }
def XferTellsUptoSaid : Prop := xferTellsUptoRow.holds Try.pinned (OpenSpec.upto xferTellsSpec)

/-- 'consistorylaw22.XferNil', WHERE WHAT IT READS IS OF BULK AT MOST 1048576: true; the input reads as it did. -/
def xferNilUptoRow : OpenClaim := { program := "ytpdpapcmfnhgpaa", sum := "2f4c42104ceef4976f718e309c6431b6c2ca1c4de4ea88677bd982025f71109f", func := "consistory/consistorylaw22.XferNil", spec := "xferNil", unfollowed := true, recurses := true, plainKeys := false, apart := false, narrowed := true }
def XferNilUptoSaid : Prop := xferNilUptoRow.holds Try.pinned (OpenSpec.upto xferNilSpec)

/-- 'consistorylaw22.XferOld', WHERE WHAT IT READS IS OF BULK AT MOST 1048576: true; the input reads as it did. -/
def xferOldUptoRow : OpenClaim := { program := "ytpdpapcmfnhgpaa", sum := "2f4c42104ceef4976f718e309c6431b6c2ca1c4de4ea88677bd982025f71109f", func := "consistory/consistorylaw22.XferOld", spec := "xferOld", unfollowed := true, recurses := true, plainKeys := false, apart := false, narrowed := true }
def XferOldUptoSaid : Prop := xferOldUptoRow.holds Try.pinned (OpenSpec.upto xferOldSpec)

/-- 'consistorylaw24.ClientNil', WHERE WHAT IT READS IS OF BULK AT MOST 1048576: true; the input reads as it did. -/
def clientNilUptoRow : OpenClaim := { program := "ytpdpapcmfnhgpaa", sum := "2f4c42104ceef4976f718e309c6431b6c2ca1c4de4ea88677bd982025f71109f", func := "consistory/consistorylaw24.ClientNil", spec := "clientNil", unfollowed := true, recurses := true, plainKeys := false, apart := false, narrowed := true }
def ClientNilUptoSaid : Prop := clientNilUptoRow.holds Try.pinned (OpenSpec.upto clientNilSpec)

/-- 'consistorylaw24.ClientNeeds', WHERE WHAT IT READS IS OF BULK AT MOST 1048576: true; the input reads as it did. -/
def clientNeedsUptoRow : OpenClaim := { program := "ytpdpapcmfnhgpaa", sum := "2f4c42104ceef4976f718e309c6431b6c2ca1c4de4ea88677bd982025f71109f", func := "consistory/consistorylaw24.ClientNeeds", spec := "clientNeeds", unfollowed := true, recurses := true, plainKeys := false, apart := false, narrowed := true }
def ClientNeedsUptoSaid : Prop := clientNeedsUptoRow.holds Try.pinned (OpenSpec.upto clientNeedsSpec)

/-- 'consistorylaw24.ClientFresh', WHERE WHAT IT READS IS OF BULK AT MOST 1048576: true; the input reads as it did. -/
def clientFreshUptoRow : OpenClaim := { program := "ytpdpapcmfnhgpaa", sum := "2f4c42104ceef4976f718e309c6431b6c2ca1c4de4ea88677bd982025f71109f", func := "consistory/consistorylaw24.ClientFresh", spec := "clientFresh", unfollowed := true, recurses := true, plainKeys := false, apart := false, narrowed := true }
def ClientFreshUptoSaid : Prop := clientFreshUptoRow.holds Try.pinned (OpenSpec.upto clientFreshSpec)

/-- 'consistorylaw19.StopsBound', WHERE WHAT IT READS IS OF BULK AT MOST 1048576: true; the input reads as it did. -/
def stopsBoundUptoRow : OpenClaim := { program := "ytpdpapcmfnhgpaa", sum := "2f4c42104ceef4976f718e309c6431b6c2ca1c4de4ea88677bd982025f71109f", func := "consistory/consistorylaw19.StopsBound", spec := "stopsBound", unfollowed := true, recurses := true, plainKeys := false, apart := false, narrowed := true }
def StopsBoundUptoSaid : Prop := stopsBoundUptoRow.holds Try.pinned (OpenSpec.upto stopsBoundSpec)

end Rows
end Go.Proofs.Ytpdpapcmfnhgpaa
