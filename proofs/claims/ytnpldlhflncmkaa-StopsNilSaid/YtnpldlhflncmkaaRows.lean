/-
  No cell of these rows narrows 'for every input' (looked for: loops, veiled, ifaces, maps, wideKeys, modest, calm, conditions, laid).
  DERIVED. THE GIVEN ROWS OF THIS SEAT. 4 by the template 'for every input the law returns true; each argument reads behind the call as it read before'; 0 by the template 'total and deterministic' (their statements: YtnpldlhflncmkaaTotals.lean).
  GIVEN WITH THE SEED: the statements are not yours to turn. If you find one false, say at which input.
  Laid BY PROGRAM, IN A SANDBOX (cutbox-rows.mjs): the forced cells as the released guide's own fill.sh prints them over the translation bfbb51738b0ea845… (all of the seat's roots in one cut). By AI agents, Wed Nov 11 2026. No macro, syntax, notation, axiom, sorry.
-/
import Derived.Test.YtnpldlhflncmkaaChecked
import GoSem.Claim
import GoSem.ClaimJoined
import GoSem.ClaimMapViews
import Derived.JoinedTies
import Derived.KernelRfl
namespace Go.Proofs.Ytnpldlhflncmkaa
/- THE CELL 'sum', in the pinned program and in every row, IS THE sha256 OF THE DUMP (.gsa) THAT YtnpldlhflncmkaaProg.lean LOADS. Nothing in Lean hashes anything: it is a label: what it is worth is what the hold of that sum in a sandbox is worth. -/
noncomputable def Try.pinned : Pinned := { name := "ytnpldlhflncmkaa", sum := "bfbb51738b0ea845b362a20f4a586039b67fd6ff24ebbcd5b19abf67ce7765e2", checked := Try.checked }
namespace Rows
def none {H : Type} : Left H := { results := [], args := [] }

/-- 'consistorylaw22.XferTells': WHATEVER THE INPUT: true; the input reads as it did. -/
def xferTellsSpec : ChangeSpec := { name := "xferTells", fn := fun _ => fun
  | [d1, d2, d3] => { results := [.lit (.bool true)], args := [d1, d2, d3] }
  | _ => none }
def xferTellsRow : OpenClaim := { program := "ytnpldlhflncmkaa", sum := "bfbb51738b0ea845b362a20f4a586039b67fd6ff24ebbcd5b19abf67ce7765e2", func := "consistory/consistorylaw22.XferTells", spec := "xferTells", unfollowed := true, recurses := true, plainKeys := false, apart := false }
def XferTellsSaid : Prop := xferTellsRow.holds Try.pinned (OpenSpec.ofChange xferTellsSpec)

/-- ITS FALSE NEIGHBOUR: 'it returns false'. Refute it at one input. -/
def xferTellsWrong : ChangeSpec := { name := "xferTells", fn := fun _ => fun
  | [d1, d2, d3] => { results := [.lit (.bool false)], args := [d1, d2, d3] }
  | _ => none }
def XferTellsWrongFalsely : Prop := xferTellsRow.holds Try.pinned (OpenSpec.ofChange xferTellsWrong)

/-- 'consistorylaw22.XferNil': WHATEVER THE INPUT: true; the input reads as it did. -/
def xferNilSpec : ChangeSpec := { name := "xferNil", fn := fun _ => fun
  | [d] => { results := [.lit (.bool true)], args := [d] }
  | _ => none }
def xferNilRow : OpenClaim := { program := "ytnpldlhflncmkaa", sum := "bfbb51738b0ea845b362a20f4a586039b67fd6ff24ebbcd5b19abf67ce7765e2", func := "consistory/consistorylaw22.XferNil", spec := "xferNil", unfollowed := true, recurses := true, plainKeys := false, apart := false }
def XferNilSaid : Prop := xferNilRow.holds Try.pinned (OpenSpec.ofChange xferNilSpec)

/-- ITS FALSE NEIGHBOUR: 'it returns false'. Refute it at one input. -/
def xferNilWrong : ChangeSpec := { name := "xferNil", fn := fun _ => fun
  | [d] => { results := [.lit (.bool false)], args := [d] }
  | _ => none }
def XferNilWrongFalsely : Prop := xferNilRow.holds Try.pinned (OpenSpec.ofChange xferNilWrong)

/-- 'consistorylaw19.StopsLeast': WHATEVER THE INPUT: true; the input reads as it did. -/
def stopsLeastSpec : ChangeSpec := { name := "stopsLeast", fn := fun _ => fun
  | [d1, d2, d3] => { results := [.lit (.bool true)], args := [d1, d2, d3] }
  | _ => none }
def stopsLeastRow : OpenClaim := { program := "ytnpldlhflncmkaa", sum := "bfbb51738b0ea845b362a20f4a586039b67fd6ff24ebbcd5b19abf67ce7765e2", func := "consistory/consistorylaw19.StopsLeast", spec := "stopsLeast", unfollowed := true, recurses := true, plainKeys := false, apart := false }
def StopsLeastSaid : Prop := stopsLeastRow.holds Try.pinned (OpenSpec.ofChange stopsLeastSpec)

/-- ITS FALSE NEIGHBOUR: 'it returns false'. Refute it at one input. -/
def stopsLeastWrong : ChangeSpec := { name := "stopsLeast", fn := fun _ => fun
  | [d1, d2, d3] => { results := [.lit (.bool false)], args := [d1, d2, d3] }
  | _ => none }
def StopsLeastWrongFalsely : Prop := stopsLeastRow.holds Try.pinned (OpenSpec.ofChange stopsLeastWrong)

/-- 'consistorylaw19.StopsNil': WHATEVER THE INPUT: true; the input reads as it did. -/
def stopsNilSpec : ChangeSpec := { name := "stopsNil", fn := fun _ => fun
  | [d1, d2] => { results := [.lit (.bool true)], args := [d1, d2] }
  | _ => none }
def stopsNilRow : OpenClaim := { program := "ytnpldlhflncmkaa", sum := "bfbb51738b0ea845b362a20f4a586039b67fd6ff24ebbcd5b19abf67ce7765e2", func := "consistory/consistorylaw19.StopsNil", spec := "stopsNil", unfollowed := true, recurses := true, plainKeys := false, apart := false }
def StopsNilSaid : Prop := stopsNilRow.holds Try.pinned (OpenSpec.ofChange stopsNilSpec)

/-- ITS FALSE NEIGHBOUR: 'it returns false'. Refute it at one input. -/
def stopsNilWrong : ChangeSpec := { name := "stopsNil", fn := fun _ => fun
  | [d1, d2] => { results := [.lit (.bool false)], args := [d1, d2] }
  | _ => none }
def StopsNilWrongFalsely : Prop := stopsNilRow.holds Try.pinned (OpenSpec.ofChange stopsNilWrong)

/- THE SECOND FORM. 'bulk': how many values and letters a reading holds, each counted each time it is reached (what is shared counts as often as it is met; a slice's spare places count too). A statement '..UptoSaid' is the law's where the arguments, and the package variables that the reading takes, are together of bulk at most 1048576: NARROWER than '..Said'. Prove '..Said' where nothing that the law and all that it calls make is longer than what came in: it says more and counts as full. Else prove '..UptoSaid'. A law counts once. -/
mutual
def uptoBulk {H : Type} : DataW H → Nat
  | .lit (.string bytes) => bytes.length + 1
  | .lit _ => 1
  | .nil => 1
  | .ptr d => uptoBulk d + 1
  | .slice elems spare => uptoBulkAll elems + uptoBulkAll spare + 1
  | .agg parts => uptoBulkAll parts + 1
  | .iface _ d => uptoBulk d + 1
  | .map entries => uptoBulkEntries entries + 1
  | .held _ => 1
def uptoBulkAll {H : Type} : List (DataW H) → Nat
  | [] => 0
  | d :: r => uptoBulk d + uptoBulkAll r
def uptoBulkEntries {H : Type} : List (Lit × DataW H) → Nat
  | [] => 0
  | x :: r => uptoBulkEntry x + uptoBulkEntries r
def uptoBulkEntry {H : Type} : Lit × DataW H → Nat
  | (.string bytes, d) => bytes.length + uptoBulk d + 1
  | (_, d) => uptoBulk d + 1
 end
def uptoSmall : (H : Type) → List (DataW H) → Bool := fun _ ds => decide (uptoBulkAll ds ≤ 1048576)
def OpenSpec.upto (s : _root_.Go.ChangeSpec) : _root_.Go.OpenSpec := { _root_.Go.OpenSpec.ofChange s with cond := some uptoSmall }

/-- 'consistorylaw22.XferTells', WHERE WHAT IT READS IS OF BULK AT MOST 1048576: true; the input reads as it did. -/
def xferTellsUptoRow : OpenClaim := { program := "ytnpldlhflncmkaa", sum := "bfbb51738b0ea845b362a20f4a586039b67fd6ff24ebbcd5b19abf67ce7765e2", func := "consistory/consistorylaw22.XferTells", spec := "xferTells", unfollowed := true, recurses := true, plainKeys := false, apart := false, narrowed := true }
def XferTellsUptoSaid : Prop := xferTellsUptoRow.holds Try.pinned (OpenSpec.upto xferTellsSpec)

/-- 'consistorylaw22.XferNil', WHERE WHAT IT READS IS OF BULK AT MOST 1048576: true; the input reads as it did. -/
def xferNilUptoRow : OpenClaim := { program := "ytnpldlhflncmkaa", sum := "bfbb51738b0ea845b362a20f4a586039b67fd6ff24ebbcd5b19abf67ce7765e2", func := "consistory/consistorylaw22.XferNil", spec := "xferNil", unfollowed := true, recurses := true, plainKeys := false, apart := false, narrowed := true }
def XferNilUptoSaid : Prop := xferNilUptoRow.holds Try.pinned (OpenSpec.upto xferNilSpec)

/-- 'consistorylaw19.StopsLeast', WHERE WHAT IT READS IS OF BULK AT MOST 1048576: true; the input reads as it did. -/
def stopsLeastUptoRow : OpenClaim := { program := "ytnpldlhflncmkaa", sum := "bfbb51738b0ea845b362a20f4a586039b67fd6ff24ebbcd5b19abf67ce7765e2", func := "consistory/consistorylaw19.StopsLeast", spec := "stopsLeast", unfollowed := true, recurses := true, plainKeys := false, apart := false, narrowed := true }
def StopsLeastUptoSaid : Prop := stopsLeastUptoRow.holds Try.pinned (OpenSpec.upto stopsLeastSpec)

/-- 'consistorylaw19.StopsNil', WHERE WHAT IT READS IS OF BULK AT MOST 1048576: true; the input reads as it did. -/
def stopsNilUptoRow : OpenClaim := { program := "ytnpldlhflncmkaa", sum := "bfbb51738b0ea845b362a20f4a586039b67fd6ff24ebbcd5b19abf67ce7765e2", func := "consistory/consistorylaw19.StopsNil", spec := "stopsNil", unfollowed := true, recurses := true, plainKeys := false, apart := false, narrowed := true }
def StopsNilUptoSaid : Prop := stopsNilUptoRow.holds Try.pinned (OpenSpec.upto stopsNilSpec)

end Rows
end Go.Proofs.Ytnpldlhflncmkaa
