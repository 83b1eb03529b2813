/-
  No cell of these rows narrows 'for every input' (looked for: loops, veiled, ifaces, maps, wideKeys, modest, calm, conditions, laid).
  DERIVED. THE GIVEN ROWS OF THIS SEAT. 6 by the template 'for every input the law returns true; each argument reads behind the call as it read before'; 0 by the template 'total and deterministic' (their statements: YtdjbhpdfkopdgaaTotals.lean).
  GIVEN WITH THE SEED: the statements are not yours to turn. If you find one false, say at which input.
  Laid BY PROGRAM, IN A SANDBOX (cutbox-rows.mjs): the forced cells as the released guide's own fill.sh prints them over the translation 3218679a3b679cca… (all of the seat's roots in one cut). By AI agents, Wed Nov 11 2026. No macro, syntax, notation, axiom, sorry.
-/
import Derived.Test.YtdjbhpdfkopdgaaChecked
import GoSem.Claim
import GoSem.ClaimJoined
import GoSem.ClaimMapViews
import Derived.JoinedTies
import Derived.KernelRfl
namespace Go.Proofs.Ytdjbhpdfkopdgaa
/- THE CELL 'sum', in the pinned program and in every row, IS THE sha256 OF THE DUMP (.gsa) THAT YtdjbhpdfkopdgaaProg.lean LOADS. Nothing in Lean hashes anything: it is a label: what it is worth is what the hold of that sum in a sandbox is worth. -/
noncomputable def Try.pinned : Pinned := { name := "ytdjbhpdfkopdgaa", sum := "3218679a3b679cca078d6df43af8cd168fc373a12d073d13c8bdf5fe7919cb4d", checked := Try.checked }
namespace Rows
def none {H : Type} : Left H := { results := [], args := [] }

/-- 'consistorylaw13.VotesOnce': WHATEVER THE INPUT: true; the input reads as it did. -/
def votesOnceSpec : ChangeSpec := { name := "votesOnce", fn := fun _ => fun
  | [d1, d2, d3] => { results := [.lit (.bool true)], args := [d1, d2, d3] }
  | _ => none }
def votesOnceRow : OpenClaim := { program := "ytdjbhpdfkopdgaa", sum := "3218679a3b679cca078d6df43af8cd168fc373a12d073d13c8bdf5fe7919cb4d", func := "consistory/consistorylaw13.VotesOnce", spec := "votesOnce", plainKeys := false, apart := false }
def VotesOnceSaid : Prop := votesOnceRow.holds Try.pinned (OpenSpec.ofChange votesOnceSpec)

/-- ITS FALSE NEIGHBOUR: 'it returns false'. Refute it at one input. -/
def votesOnceWrong : ChangeSpec := { name := "votesOnce", fn := fun _ => fun
  | [d1, d2, d3] => { results := [.lit (.bool false)], args := [d1, d2, d3] }
  | _ => none }
def VotesOnceWrongFalsely : Prop := votesOnceRow.holds Try.pinned (OpenSpec.ofChange votesOnceWrong)

/-- 'consistorylaw13.VotesRise': WHATEVER THE INPUT: true; the input reads as it did. -/
def votesRiseSpec : ChangeSpec := { name := "votesRise", fn := fun _ => fun
  | [d] => { results := [.lit (.bool true)], args := [d] }
  | _ => none }
def votesRiseRow : OpenClaim := { program := "ytdjbhpdfkopdgaa", sum := "3218679a3b679cca078d6df43af8cd168fc373a12d073d13c8bdf5fe7919cb4d", func := "consistory/consistorylaw13.VotesRise", spec := "votesRise", plainKeys := false, apart := false }
def VotesRiseSaid : Prop := votesRiseRow.holds Try.pinned (OpenSpec.ofChange votesRiseSpec)

/-- ITS FALSE NEIGHBOUR: 'it returns false'. Refute it at one input. -/
def votesRiseWrong : ChangeSpec := { name := "votesRise", fn := fun _ => fun
  | [d] => { results := [.lit (.bool false)], args := [d] }
  | _ => none }
def VotesRiseWrongFalsely : Prop := votesRiseRow.holds Try.pinned (OpenSpec.ofChange votesRiseWrong)

/-- 'consistorylaw13.VotesTake': WHATEVER THE INPUT: true; the input reads as it did. -/
def votesTakeSpec : ChangeSpec := { name := "votesTake", fn := fun _ => fun
  | [d] => { results := [.lit (.bool true)], args := [d] }
  | _ => none }
def votesTakeRow : OpenClaim := { program := "ytdjbhpdfkopdgaa", sum := "3218679a3b679cca078d6df43af8cd168fc373a12d073d13c8bdf5fe7919cb4d", func := "consistory/consistorylaw13.VotesTake", spec := "votesTake", plainKeys := false, apart := false }
def VotesTakeSaid : Prop := votesTakeRow.holds Try.pinned (OpenSpec.ofChange votesTakeSpec)

/-- ITS FALSE NEIGHBOUR: 'it returns false'. Refute it at one input. -/
def votesTakeWrong : ChangeSpec := { name := "votesTake", fn := fun _ => fun
  | [d] => { results := [.lit (.bool false)], args := [d] }
  | _ => none }
def VotesTakeWrongFalsely : Prop := votesTakeRow.holds Try.pinned (OpenSpec.ofChange votesTakeWrong)

/-- 'consistorylaw13.VotesBytes': WHATEVER THE INPUT: true; the input reads as it did. -/
def votesBytesSpec : ChangeSpec := { name := "votesBytes", fn := fun _ => fun
  | [d] => { results := [.lit (.bool true)], args := [d] }
  | _ => none }
def votesBytesRow : OpenClaim := { program := "ytdjbhpdfkopdgaa", sum := "3218679a3b679cca078d6df43af8cd168fc373a12d073d13c8bdf5fe7919cb4d", func := "consistory/consistorylaw13.VotesBytes", spec := "votesBytes", plainKeys := false, apart := false }
def VotesBytesSaid : Prop := votesBytesRow.holds Try.pinned (OpenSpec.ofChange votesBytesSpec)

/-- ITS FALSE NEIGHBOUR: 'it returns false'. Refute it at one input. -/
def votesBytesWrong : ChangeSpec := { name := "votesBytes", fn := fun _ => fun
  | [d] => { results := [.lit (.bool false)], args := [d] }
  | _ => none }
def VotesBytesWrongFalsely : Prop := votesBytesRow.holds Try.pinned (OpenSpec.ofChange votesBytesWrong)

/-- 'consistorylaw13.VotesAll': WHATEVER THE INPUT: true; the input reads as it did. -/
def votesAllSpec : ChangeSpec := { name := "votesAll", fn := fun _ => fun
  | [d] => { results := [.lit (.bool true)], args := [d] }
  | _ => none }
def votesAllRow : OpenClaim := { program := "ytdjbhpdfkopdgaa", sum := "3218679a3b679cca078d6df43af8cd168fc373a12d073d13c8bdf5fe7919cb4d", func := "consistory/consistorylaw13.VotesAll", spec := "votesAll", unfollowed := true, recurses := true, plainKeys := false, apart := false }
def VotesAllSaid : Prop := votesAllRow.holds Try.pinned (OpenSpec.ofChange votesAllSpec)

/-- ITS FALSE NEIGHBOUR: 'it returns false'. Refute it at one input. -/
def votesAllWrong : ChangeSpec := { name := "votesAll", fn := fun _ => fun
  | [d] => { results := [.lit (.bool false)], args := [d] }
  | _ => none }
def VotesAllWrongFalsely : Prop := votesAllRow.holds Try.pinned (OpenSpec.ofChange votesAllWrong)

/-- 'consistorylaw13.VotesNil': WHATEVER THE INPUT: true; the input reads as it did. -/
def votesNilSpec : ChangeSpec := { name := "votesNil", fn := fun _ => fun
  | [d] => { results := [.lit (.bool true)], args := [d] }
  | _ => none }
def votesNilRow : OpenClaim := { program := "ytdjbhpdfkopdgaa", sum := "3218679a3b679cca078d6df43af8cd168fc373a12d073d13c8bdf5fe7919cb4d", func := "consistory/consistorylaw13.VotesNil", spec := "votesNil", unfollowed := true, recurses := true, plainKeys := false, apart := false }
def VotesNilSaid : Prop := votesNilRow.holds Try.pinned (OpenSpec.ofChange votesNilSpec)

/-- ITS FALSE NEIGHBOUR: 'it returns false'. Refute it at one input. -/
def votesNilWrong : ChangeSpec := { name := "votesNil", fn := fun _ => fun
  | [d] => { results := [.lit (.bool false)], args := [d] }
  | _ => none }
def VotesNilWrongFalsely : Prop := votesNilRow.holds Try.pinned (OpenSpec.ofChange votesNilWrong)

/- THE SECOND FORM. 'bulk': how many values and letters a reading holds, each counted each time it is reached (what is shared counts as often as it is met; a slice's spare places count too). A statement '..UptoSaid' is the law's where the arguments, and the package variables that the reading takes, are together of bulk at most 1048576: NARROWER than '..Said'. Prove '..Said' where nothing that the law and all that it calls make is longer than what came in: it says more and counts as full. Else prove '..UptoSaid'. A law counts once. -/
mutual
def uptoBulk {H : Type} : DataW H → Nat
  | .lit (.string bytes) => bytes.length + 1
  | .lit _ => 1
  | .nil => 1
  | .ptr d => uptoBulk d + 1
  | .slice elems spare => uptoBulkAll elems + uptoBulkAll spare + 1
  | .agg parts => uptoBulkAll parts + 1
  | .iface _ d => uptoBulk d + 1
  | .map entries => uptoBulkEntries entries + 1
  | .held _ => 1
def uptoBulkAll {H : Type} : List (DataW H) → Nat
  | [] => 0
  | d :: r => uptoBulk d + uptoBulkAll r
def uptoBulkEntries {H : Type} : List (Lit × DataW H) → Nat
  | [] => 0
  | x :: r => uptoBulkEntry x + uptoBulkEntries r
def uptoBulkEntry {H : Type} : Lit × DataW H → Nat
  | (.string bytes, d) => bytes.length + uptoBulk d + 1
  | (_, d) => uptoBulk d + 1
 end
def uptoSmall : (H : Type) → List (DataW H) → Bool := fun _ ds => decide (uptoBulkAll ds ≤ 1048576)
def OpenSpec.upto (s : _root_.Go.ChangeSpec) : _root_.Go.OpenSpec := { _root_.Go.OpenSpec.ofChange s with cond := some uptoSmall }

/-- 'consistorylaw13.VotesOnce', WHERE WHAT IT READS IS OF BULK AT MOST 1048576: true; the input reads as it did. -/
def votesOnceUptoRow : OpenClaim := { program := "ytdjbhpdfkopdgaa", sum := "3218679a3b679cca078d6df43af8cd168fc373a12d073d13c8bdf5fe7919cb4d", func := "consistory/consistorylaw13.VotesOnce", spec := "votesOnce", plainKeys := false, apart := false, narrowed := true }
def VotesOnceUptoSaid : Prop := votesOnceUptoRow.holds Try.pinned (OpenSpec.upto votesOnceSpec)

/-- 'consistorylaw13.VotesRise', WHERE WHAT IT READS IS OF BULK AT MOST 1048576: true; the input reads as it did. -/
def votesRiseUptoRow : OpenClaim := { program := "ytdjbhpdfkopdgaa", sum := "3218679a3b679cca078d6df43af8cd168fc373a12d073d13c8bdf5fe7919cb4d", func := "consistory/consistorylaw13.VotesRise", spec := "votesRise", plainKeys := false, apart := false, narrowed := true }
def VotesRiseUptoSaid : Prop := votesRiseUptoRow.holds Try.pinned (OpenSpec.upto votesRiseSpec)

/-- 'consistorylaw13.VotesTake', WHERE WHAT IT READS IS OF BULK AT MOST 1048576: true; the input reads as it did. -/
def votesTakeUptoRow : OpenClaim := { program := "ytdjbhpdfkopdgaa", sum := "3218679a3b679cca078d6df43af8cd168fc373a12d073d13c8bdf5fe7919cb4d", func := "consistory/consistorylaw13.VotesTake", spec := "votesTake", plainKeys := false, apart := false, narrowed := true }
def VotesTakeUptoSaid : Prop := votesTakeUptoRow.holds Try.pinned (OpenSpec.upto votesTakeSpec)

/-- 'consistorylaw13.VotesBytes', WHERE WHAT IT READS IS OF BULK AT MOST 1048576: true; the input reads as it did. -/
def votesBytesUptoRow : OpenClaim := { program := "ytdjbhpdfkopdgaa", sum := "3218679a3b679cca078d6df43af8cd168fc373a12d073d13c8bdf5fe7919cb4d", func := "consistory/consistorylaw13.VotesBytes", spec := "votesBytes", plainKeys := false, apart := false, narrowed := true }
def VotesBytesUptoSaid : Prop := votesBytesUptoRow.holds Try.pinned (OpenSpec.upto votesBytesSpec)

/-- 'consistorylaw13.VotesAll', WHERE WHAT IT READS IS OF BULK AT MOST 1048576: true; the input reads as it did. -/
def votesAllUptoRow : OpenClaim := { program := "ytdjbhpdfkopdgaa", sum := "3218679a3b679cca078d6df43af8cd168fc373a12d073d13c8bdf5fe7919cb4d", func := "consistory/consistorylaw13.VotesAll", spec := "votesAll", unfollowed := true, recurses := true, plainKeys := false, apart := false, narrowed := true }
def VotesAllUptoSaid : Prop := votesAllUptoRow.holds Try.pinned (OpenSpec.upto votesAllSpec)

/-- 'consistorylaw13.VotesNil', WHERE WHAT IT READS IS OF BULK AT MOST 1048576: true; the input reads as it did. -/
def votesNilUptoRow : OpenClaim := { program := "ytdjbhpdfkopdgaa", sum := "3218679a3b679cca078d6df43af8cd168fc373a12d073d13c8bdf5fe7919cb4d", func := "consistory/consistorylaw13.VotesNil", spec := "votesNil", unfollowed := true, recurses := true, plainKeys := false, apart := false, narrowed := true }
def VotesNilUptoSaid : Prop := votesNilUptoRow.holds Try.pinned (OpenSpec.upto votesNilSpec)

end Rows
end Go.Proofs.Ytdjbhpdfkopdgaa
