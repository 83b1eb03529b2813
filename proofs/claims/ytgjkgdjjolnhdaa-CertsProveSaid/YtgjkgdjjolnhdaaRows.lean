/-
  No cell of these rows narrows 'for every input' (looked for: loops, veiled, ifaces, maps, wideKeys, modest, calm, conditions, laid).
  DERIVED. THE GIVEN ROWS OF THIS SEAT. 4 by the template 'for every input the law returns true; each argument reads behind the call as it read before'; 0 by the template 'total and deterministic' (their statements: YtgjkgdjjolnhdaaTotals.lean).
  GIVEN WITH THE SEED: the statements are not yours to turn. If you find one false, say at which input.
  Laid BY PROGRAM, IN A SANDBOX (cutbox-rows.mjs): the forced cells as the released guide's own fill.sh prints them over the translation 2582daeb1f78b536… (all of the seat's roots in one cut). By AI agents, Wed Nov 11 2026. No macro, syntax, notation, axiom, sorry.
-/
import Derived.Test.YtgjkgdjjolnhdaaChecked
import GoSem.Claim
import GoSem.ClaimJoined
import GoSem.ClaimMapViews
import Derived.JoinedTies
import Derived.KernelRfl
namespace Go.Proofs.Ytgjkgdjjolnhdaa
/- THE CELL 'sum', in the pinned program and in every row, IS THE sha256 OF THE DUMP (.gsa) THAT YtgjkgdjjolnhdaaProg.lean LOADS. Nothing in Lean hashes anything: it is a label: what it is worth is what the hold of that sum in a sandbox is worth. -/
noncomputable def Try.pinned : Pinned := { name := "ytgjkgdjjolnhdaa", sum := "2582daeb1f78b536b907ef783d9fcf982c4bd7bd4ff390d1b24d90fef0ad8f36", checked := Try.checked }
namespace Rows
def none {H : Type} : Left H := { results := [], args := [] }

/-- 'consistorylaw09.SealsSeal': WHATEVER THE INPUT: true; the input reads as it did. -/
def sealsSealSpec : ChangeSpec := { name := "sealsSeal", fn := fun _ => fun
  | [d1, d2] => { results := [.lit (.bool true)], args := [d1, d2] }
  | _ => none }
def sealsSealRow : OpenClaim := { program := "ytgjkgdjjolnhdaa", sum := "2582daeb1f78b536b907ef783d9fcf982c4bd7bd4ff390d1b24d90fef0ad8f36", func := "consistory/consistorylaw09.SealsSeal", spec := "sealsSeal", unfollowed := true, recurses := true, apart := false }
def SealsSealSaid : Prop := sealsSealRow.holds Try.pinned (OpenSpec.ofChange sealsSealSpec)

/-- ITS FALSE NEIGHBOUR: 'it returns false'. Refute it at one input. -/
def sealsSealWrong : ChangeSpec := { name := "sealsSeal", fn := fun _ => fun
  | [d1, d2] => { results := [.lit (.bool false)], args := [d1, d2] }
  | _ => none }
def SealsSealWrongFalsely : Prop := sealsSealRow.holds Try.pinned (OpenSpec.ofChange sealsSealWrong)

/-- 'consistorylaw09.SealsOther': WHATEVER THE INPUT: true; the input reads as it did. -/
def sealsOtherSpec : ChangeSpec := { name := "sealsOther", fn := fun _ => fun
  | [d1, d2, d3] => { results := [.lit (.bool true)], args := [d1, d2, d3] }
  | _ => none }
def sealsOtherRow : OpenClaim := { program := "ytgjkgdjjolnhdaa", sum := "2582daeb1f78b536b907ef783d9fcf982c4bd7bd4ff390d1b24d90fef0ad8f36", func := "consistory/consistorylaw09.SealsOther", spec := "sealsOther", unfollowed := true, recurses := true, apart := false }
def SealsOtherSaid : Prop := sealsOtherRow.holds Try.pinned (OpenSpec.ofChange sealsOtherSpec)

/-- ITS FALSE NEIGHBOUR: 'it returns false'. Refute it at one input. -/
def sealsOtherWrong : ChangeSpec := { name := "sealsOther", fn := fun _ => fun
  | [d1, d2, d3] => { results := [.lit (.bool false)], args := [d1, d2, d3] }
  | _ => none }
def SealsOtherWrongFalsely : Prop := sealsOtherRow.holds Try.pinned (OpenSpec.ofChange sealsOtherWrong)

/-- 'consistorylaw09.SealsTag': WHATEVER THE INPUT: true; the input reads as it did. -/
def sealsTagSpec : ChangeSpec := { name := "sealsTag", fn := fun _ => fun
  | [d1, d2, d3] => { results := [.lit (.bool true)], args := [d1, d2, d3] }
  | _ => none }
def sealsTagRow : OpenClaim := { program := "ytgjkgdjjolnhdaa", sum := "2582daeb1f78b536b907ef783d9fcf982c4bd7bd4ff390d1b24d90fef0ad8f36", func := "consistory/consistorylaw09.SealsTag", spec := "sealsTag", unfollowed := true, recurses := true, apart := false }
def SealsTagSaid : Prop := sealsTagRow.holds Try.pinned (OpenSpec.ofChange sealsTagSpec)

/-- ITS FALSE NEIGHBOUR: 'it returns false'. Refute it at one input. -/
def sealsTagWrong : ChangeSpec := { name := "sealsTag", fn := fun _ => fun
  | [d1, d2, d3] => { results := [.lit (.bool false)], args := [d1, d2, d3] }
  | _ => none }
def SealsTagWrongFalsely : Prop := sealsTagRow.holds Try.pinned (OpenSpec.ofChange sealsTagWrong)

/-- 'consistorylaw17.CertsProve': WHATEVER THE INPUT: true; the input reads as it did. -/
def certsProveSpec : ChangeSpec := { name := "certsProve", fn := fun _ => fun
  | [d1, d2] => { results := [.lit (.bool true)], args := [d1, d2] }
  | _ => none }
def certsProveRow : OpenClaim := { program := "ytgjkgdjjolnhdaa", sum := "2582daeb1f78b536b907ef783d9fcf982c4bd7bd4ff390d1b24d90fef0ad8f36", func := "consistory/consistorylaw17.CertsProve", spec := "certsProve", unfollowed := true, recurses := true, apart := false }
def CertsProveSaid : Prop := certsProveRow.holds Try.pinned (OpenSpec.ofChange certsProveSpec)

/-- ITS FALSE NEIGHBOUR: 'it returns false'. Refute it at one input. -/
def certsProveWrong : ChangeSpec := { name := "certsProve", fn := fun _ => fun
  | [d1, d2] => { results := [.lit (.bool false)], args := [d1, d2] }
  | _ => none }
def CertsProveWrongFalsely : Prop := certsProveRow.holds Try.pinned (OpenSpec.ofChange certsProveWrong)

/- THE SECOND FORM. 'bulk': how many values and letters a reading holds, each counted each time it is reached (what is shared counts as often as it is met; a slice's spare places count too). A statement '..UptoSaid' is the law's where the arguments, and the package variables that the reading takes, are together of bulk at most 1048576: NARROWER than '..Said'. Prove '..Said' where nothing that the law and all that it calls make is longer than what came in: it says more and counts as full. Else prove '..UptoSaid'. A law counts once. -/
mutual
def uptoBulk {H : Type} : DataW H → Nat
  | .lit (.string bytes) => bytes.length + 1
  | .lit _ => 1
  | .nil => 1
  | .ptr d => uptoBulk d + 1
  | .slice elems spare => uptoBulkAll elems + uptoBulkAll spare + 1
  | .agg parts => uptoBulkAll parts + 1
  | .iface _ d => uptoBulk d + 1
  | .map entries => uptoBulkEntries entries + 1
  | .held _ => 1
def uptoBulkAll {H : Type} : List (DataW H) → Nat
  | [] => 0
  | d :: r => uptoBulk d + uptoBulkAll r
def uptoBulkEntries {H : Type} : List (Lit × DataW H) → Nat
  | [] => 0
  | x :: r => uptoBulkEntry x + uptoBulkEntries r
def uptoBulkEntry {H : Type} : Lit × DataW H → Nat
  | (.string bytes, d) => bytes.length + uptoBulk d + 1
  | (_, d) => uptoBulk d + 1
 end
def uptoSmall : (H : Type) → List (DataW H) → Bool := fun _ ds => decide (uptoBulkAll ds ≤ 1048576)
def OpenSpec.upto (s : _root_.Go.ChangeSpec) : _root_.Go.OpenSpec := { _root_.Go.OpenSpec.ofChange s with cond := some uptoSmall }

/-- 'consistorylaw09.SealsSeal', WHERE WHAT IT READS IS OF BULK AT MOST 1048576: true; the input reads as it did. -/
def sealsSealUptoRow : OpenClaim := { program := "ytgjkgdjjolnhdaa", sum := "2582daeb1f78b536b907ef783d9fcf982c4bd7bd4ff390d1b24d90fef0ad8f36", func := "consistory/consistorylaw09.SealsSeal", spec := "sealsSeal", unfollowed := true, recurses := true, apart := false, narrowed := true }
def SealsSealUptoSaid : Prop := sealsSealUptoRow.holds Try.pinned (OpenSpec.upto sealsSealSpec)

/-- 'consistorylaw09.SealsOther', WHERE WHAT IT READS IS OF BULK AT MOST 1048576: true; the input reads as it did. -/
def sealsOtherUptoRow : OpenClaim := { program := "ytgjkgdjjolnhdaa", sum := "2582daeb1f78b536b907ef783d9fcf982c4bd7bd4ff390d1b24d90fef0ad8f36", func := "consistory/consistorylaw09.SealsOther", spec := "sealsOther", unfollowed := true, recurses := true, apart := false, narrowed := true }
def SealsOtherUptoSaid : Prop := sealsOtherUptoRow.holds Try.pinned (OpenSpec.upto sealsOtherSpec)

/-- 'consistorylaw09.SealsTag', WHERE WHAT IT READS IS OF BULK AT MOST 1048576: true; the input reads as it did. -/
def sealsTagUptoRow : OpenClaim := { program := "ytgjkgdjjolnhdaa", sum := "2582daeb1f78b536b907ef783d9fcf982c4bd7bd4ff390d1b24d90fef0ad8f36", func := "consistory/consistorylaw09.SealsTag", spec := "sealsTag", unfollowed := true, recurses := true, apart := false, narrowed := true }
def SealsTagUptoSaid : Prop := sealsTagUptoRow.holds Try.pinned (OpenSpec.upto sealsTagSpec)

/-- 'consistorylaw17.CertsProve', WHERE WHAT IT READS IS OF BULK AT MOST 1048576: true; the input reads as it did. -/
def certsProveUptoRow : OpenClaim := { program := "ytgjkgdjjolnhdaa", sum := "2582daeb1f78b536b907ef783d9fcf982c4bd7bd4ff390d1b24d90fef0ad8f36", func := "consistory/consistorylaw17.CertsProve", spec := "certsProve", unfollowed := true, recurses := true, apart := false, narrowed := true }
def CertsProveUptoSaid : Prop := certsProveUptoRow.holds Try.pinned (OpenSpec.upto certsProveSpec)

end Rows
end Go.Proofs.Ytgjkgdjjolnhdaa
