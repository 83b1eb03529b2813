/-
  NARROWER THAN 'FOR EVERY INPUT', by the rows' own cells (each row's printed sentence says how): CertsShare: laid · CertsMore: laid · CertsWho: laid · CertsLeast: laid · InstStays: laid · InstProves: laid · InstOrder: laid · InstNil: laid.
  DERIVED. THE GIVEN ROWS OF THIS SEAT. 8 by the template 'for every input the law returns true; each argument reads behind the call as it read before'; 0 by the template 'total and deterministic' (their statements: YtgjkgdjjolnhdaaDoorTotals.lean).
  GIVEN WITH THE SEED: the statements are not yours to turn. If you find one false, say at which input.
  Laid BY PROGRAM, IN A SANDBOX (cutbox-rows.mjs): the forced cells as the released guide's own fill.sh prints them over the translation a7e115c9b827ffaf… (all of the seat's roots in one cut). By AI agents, Wed Nov 11 2026. No macro, syntax, notation, axiom, sorry.
-/
import Derived.Test.YtgjkgdjjolnhdaaDoorChecked
import GoSem.Claim
import GoSem.ClaimJoined
import GoSem.ClaimMapViews
import Derived.JoinedTies
import Derived.KernelRfl
namespace Go.Proofs.YtgjkgdjjolnhdaaDoor
/- THE CELL 'sum', in the pinned program and in every row, IS THE sha256 OF THE DUMP (.gsa) THAT YtgjkgdjjolnhdaaDoorProg.lean LOADS. Nothing in Lean hashes anything: it is a label: what it is worth is what the hold of that sum in a sandbox is worth. -/
noncomputable def Tryd.pinned : Pinned := { name := "ytgjkgdjjolnhdaadoor", sum := "a7e115c9b827ffaf237cb8ed76ffbe2b4d694ec36f34ab100f2cc185978f1ec0", checked := Tryd.checked }
namespace Rows
def none {H : Type} : Left H := { results := [], args := [] }

/- WHAT THE LISTED PACKAGE-LEVEL VARIABLES READ AS WHEN THE CALL BEGINS. Each datum BY PROGRAM (the guide's laid-datum.mjs) off the statement by which the dump's own 'gosem.cut.vars' lays the variable. In a bare row this is a premise. The card (YtgjkgdjjolnhdaaDoorCards.lean) ties it to the program's text. -/
def laid_math_bits_deBruijn32tab {H : Type} : DataW H := .agg [.lit (.int .u8 0), .lit (.int .u8 1), .lit (.int .u8 28), .lit (.int .u8 2), .lit (.int .u8 29), .lit (.int .u8 14), .lit (.int .u8 24), .lit (.int .u8 3), .lit (.int .u8 30), .lit (.int .u8 22), .lit (.int .u8 20), .lit (.int .u8 15), .lit (.int .u8 25), .lit (.int .u8 17), .lit (.int .u8 4), .lit (.int .u8 8), .lit (.int .u8 31), .lit (.int .u8 27), .lit (.int .u8 13), .lit (.int .u8 23), .lit (.int .u8 21), .lit (.int .u8 19), .lit (.int .u8 16), .lit (.int .u8 7), .lit (.int .u8 26), .lit (.int .u8 12), .lit (.int .u8 18), .lit (.int .u8 6), .lit (.int .u8 11), .lit (.int .u8 5), .lit (.int .u8 10), .lit (.int .u8 9)]

/-- 'consistorylaw17.CertsShare': WHATEVER THE INPUT: true; the input reads as it did. -/
def certsShareSpec : ChangeSpec := { name := "certsShare", fn := fun _ => fun
  | [d1, d2, d3] => { results := [.lit (.bool true)], args := [d1, d2, d3] }
  | _ => none }
def certsShareRow : OpenClaim := { program := "ytgjkgdjjolnhdaadoor", sum := "a7e115c9b827ffaf237cb8ed76ffbe2b4d694ec36f34ab100f2cc185978f1ec0", func := "consistory/consistorylaw17.CertsShare", spec := "certsShare", unfollowed := true, recurses := true, named := ["math/bits.deBruijn32tab"], plainKeys := false, apart := false, laid := [("math/bits.deBruijn32tab", laid_math_bits_deBruijn32tab)] }
def CertsShareSaid : Prop := certsShareRow.holds Tryd.pinned (OpenSpec.ofChange certsShareSpec)

/-- ITS FALSE NEIGHBOUR: 'it returns false'. Refute it at one input. -/
def certsShareWrong : ChangeSpec := { name := "certsShare", fn := fun _ => fun
  | [d1, d2, d3] => { results := [.lit (.bool false)], args := [d1, d2, d3] }
  | _ => none }
def CertsShareWrongFalsely : Prop := certsShareRow.holds Tryd.pinned (OpenSpec.ofChange certsShareWrong)

/-- 'consistorylaw17.CertsMore': WHATEVER THE INPUT: true; the input reads as it did. -/
def certsMoreSpec : ChangeSpec := { name := "certsMore", fn := fun _ => fun
  | [d1, d2, d3] => { results := [.lit (.bool true)], args := [d1, d2, d3] }
  | _ => none }
def certsMoreRow : OpenClaim := { program := "ytgjkgdjjolnhdaadoor", sum := "a7e115c9b827ffaf237cb8ed76ffbe2b4d694ec36f34ab100f2cc185978f1ec0", func := "consistory/consistorylaw17.CertsMore", spec := "certsMore", unfollowed := true, recurses := true, named := ["math/bits.deBruijn32tab"], plainKeys := false, apart := false, laid := [("math/bits.deBruijn32tab", laid_math_bits_deBruijn32tab)] }
def CertsMoreSaid : Prop := certsMoreRow.holds Tryd.pinned (OpenSpec.ofChange certsMoreSpec)

/-- ITS FALSE NEIGHBOUR: 'it returns false'. Refute it at one input. -/
def certsMoreWrong : ChangeSpec := { name := "certsMore", fn := fun _ => fun
  | [d1, d2, d3] => { results := [.lit (.bool false)], args := [d1, d2, d3] }
  | _ => none }
def CertsMoreWrongFalsely : Prop := certsMoreRow.holds Tryd.pinned (OpenSpec.ofChange certsMoreWrong)

/-- 'consistorylaw17.CertsWho': WHATEVER THE INPUT: true; the input reads as it did. -/
def certsWhoSpec : ChangeSpec := { name := "certsWho", fn := fun _ => fun
  | [d1, d2] => { results := [.lit (.bool true)], args := [d1, d2] }
  | _ => none }
def certsWhoRow : OpenClaim := { program := "ytgjkgdjjolnhdaadoor", sum := "a7e115c9b827ffaf237cb8ed76ffbe2b4d694ec36f34ab100f2cc185978f1ec0", func := "consistory/consistorylaw17.CertsWho", spec := "certsWho", unfollowed := true, recurses := true, named := ["math/bits.deBruijn32tab"], plainKeys := false, apart := false, laid := [("math/bits.deBruijn32tab", laid_math_bits_deBruijn32tab)] }
def CertsWhoSaid : Prop := certsWhoRow.holds Tryd.pinned (OpenSpec.ofChange certsWhoSpec)

/-- ITS FALSE NEIGHBOUR: 'it returns false'. Refute it at one input. -/
def certsWhoWrong : ChangeSpec := { name := "certsWho", fn := fun _ => fun
  | [d1, d2] => { results := [.lit (.bool false)], args := [d1, d2] }
  | _ => none }
def CertsWhoWrongFalsely : Prop := certsWhoRow.holds Tryd.pinned (OpenSpec.ofChange certsWhoWrong)

/-- 'consistorylaw17.CertsLeast': WHATEVER THE INPUT: true; the input reads as it did. -/
def certsLeastSpec : ChangeSpec := { name := "certsLeast", fn := fun _ => fun
  | [d1, d2] => { results := [.lit (.bool true)], args := [d1, d2] }
  | _ => none }
def certsLeastRow : OpenClaim := { program := "ytgjkgdjjolnhdaadoor", sum := "a7e115c9b827ffaf237cb8ed76ffbe2b4d694ec36f34ab100f2cc185978f1ec0", func := "consistory/consistorylaw17.CertsLeast", spec := "certsLeast", unfollowed := true, recurses := true, named := ["math/bits.deBruijn32tab"], plainKeys := false, apart := false, laid := [("math/bits.deBruijn32tab", laid_math_bits_deBruijn32tab)] }
def CertsLeastSaid : Prop := certsLeastRow.holds Tryd.pinned (OpenSpec.ofChange certsLeastSpec)

/-- ITS FALSE NEIGHBOUR: 'it returns false'. Refute it at one input. -/
def certsLeastWrong : ChangeSpec := { name := "certsLeast", fn := fun _ => fun
  | [d1, d2] => { results := [.lit (.bool false)], args := [d1, d2] }
  | _ => none }
def CertsLeastWrongFalsely : Prop := certsLeastRow.holds Tryd.pinned (OpenSpec.ofChange certsLeastWrong)

/-- 'consistorylaw18.InstStays': WHATEVER THE INPUT: true; the input reads as it did. -/
def instStaysSpec : ChangeSpec := { name := "instStays", fn := fun _ => fun
  | [d1, d2, d3] => { results := [.lit (.bool true)], args := [d1, d2, d3] }
  | _ => none }
def instStaysRow : OpenClaim := { program := "ytgjkgdjjolnhdaadoor", sum := "a7e115c9b827ffaf237cb8ed76ffbe2b4d694ec36f34ab100f2cc185978f1ec0", func := "consistory/consistorylaw18.InstStays", spec := "instStays", unfollowed := true, recurses := true, named := ["math/bits.deBruijn32tab"], plainKeys := false, apart := false, laid := [("math/bits.deBruijn32tab", laid_math_bits_deBruijn32tab)] }
def InstStaysSaid : Prop := instStaysRow.holds Tryd.pinned (OpenSpec.ofChange instStaysSpec)

/-- ITS FALSE NEIGHBOUR: 'it returns false'. Refute it at one input. -/
def instStaysWrong : ChangeSpec := { name := "instStays", fn := fun _ => fun
  | [d1, d2, d3] => { results := [.lit (.bool false)], args := [d1, d2, d3] }
  | _ => none }
def InstStaysWrongFalsely : Prop := instStaysRow.holds Tryd.pinned (OpenSpec.ofChange instStaysWrong)

/-- 'consistorylaw18.InstProves': WHATEVER THE INPUT: true; the input reads as it did. -/
def instProvesSpec : ChangeSpec := { name := "instProves", fn := fun _ => fun
  | [d1, d2, d3] => { results := [.lit (.bool true)], args := [d1, d2, d3] }
  | _ => none }
def instProvesRow : OpenClaim := { program := "ytgjkgdjjolnhdaadoor", sum := "a7e115c9b827ffaf237cb8ed76ffbe2b4d694ec36f34ab100f2cc185978f1ec0", func := "consistory/consistorylaw18.InstProves", spec := "instProves", unfollowed := true, recurses := true, named := ["math/bits.deBruijn32tab"], plainKeys := false, apart := false, laid := [("math/bits.deBruijn32tab", laid_math_bits_deBruijn32tab)] }
def InstProvesSaid : Prop := instProvesRow.holds Tryd.pinned (OpenSpec.ofChange instProvesSpec)

/-- ITS FALSE NEIGHBOUR: 'it returns false'. Refute it at one input. -/
def instProvesWrong : ChangeSpec := { name := "instProves", fn := fun _ => fun
  | [d1, d2, d3] => { results := [.lit (.bool false)], args := [d1, d2, d3] }
  | _ => none }
def InstProvesWrongFalsely : Prop := instProvesRow.holds Tryd.pinned (OpenSpec.ofChange instProvesWrong)

/-- 'consistorylaw18.InstOrder': WHATEVER THE INPUT: true; the input reads as it did. -/
def instOrderSpec : ChangeSpec := { name := "instOrder", fn := fun _ => fun
  | [d1, d2, d3] => { results := [.lit (.bool true)], args := [d1, d2, d3] }
  | _ => none }
def instOrderRow : OpenClaim := { program := "ytgjkgdjjolnhdaadoor", sum := "a7e115c9b827ffaf237cb8ed76ffbe2b4d694ec36f34ab100f2cc185978f1ec0", func := "consistory/consistorylaw18.InstOrder", spec := "instOrder", unfollowed := true, recurses := true, named := ["math/bits.deBruijn32tab"], plainKeys := false, apart := false, laid := [("math/bits.deBruijn32tab", laid_math_bits_deBruijn32tab)] }
def InstOrderSaid : Prop := instOrderRow.holds Tryd.pinned (OpenSpec.ofChange instOrderSpec)

/-- ITS FALSE NEIGHBOUR: 'it returns false'. Refute it at one input. -/
def instOrderWrong : ChangeSpec := { name := "instOrder", fn := fun _ => fun
  | [d1, d2, d3] => { results := [.lit (.bool false)], args := [d1, d2, d3] }
  | _ => none }
def InstOrderWrongFalsely : Prop := instOrderRow.holds Tryd.pinned (OpenSpec.ofChange instOrderWrong)

/-- 'consistorylaw18.InstNil': WHATEVER THE INPUT: true; the input reads as it did. -/
def instNilSpec : ChangeSpec := { name := "instNil", fn := fun _ => fun
  | [d] => { results := [.lit (.bool true)], args := [d] }
  | _ => none }
def instNilRow : OpenClaim := { program := "ytgjkgdjjolnhdaadoor", sum := "a7e115c9b827ffaf237cb8ed76ffbe2b4d694ec36f34ab100f2cc185978f1ec0", func := "consistory/consistorylaw18.InstNil", spec := "instNil", unfollowed := true, recurses := true, named := ["math/bits.deBruijn32tab"], plainKeys := false, apart := false, laid := [("math/bits.deBruijn32tab", laid_math_bits_deBruijn32tab)] }
def InstNilSaid : Prop := instNilRow.holds Tryd.pinned (OpenSpec.ofChange instNilSpec)

/-- ITS FALSE NEIGHBOUR: 'it returns false'. Refute it at one input. -/
def instNilWrong : ChangeSpec := { name := "instNil", fn := fun _ => fun
  | [d] => { results := [.lit (.bool false)], args := [d] }
  | _ => none }
def InstNilWrongFalsely : Prop := instNilRow.holds Tryd.pinned (OpenSpec.ofChange instNilWrong)

/- THE SECOND FORM. 'bulk': how many values and letters a reading holds, each counted each time it is reached (what is shared counts as often as it is met; a slice's spare places count too). A statement '..UptoSaid' is the law's where the arguments, and the package variables that the reading takes, are together of bulk at most 1048576: NARROWER than '..Said'. Prove '..Said' where nothing that the law and all that it calls make is longer than what came in: it says more and counts as full. Else prove '..UptoSaid'. A law counts once. -/
mutual
def uptoBulk {H : Type} : DataW H → Nat
  | .lit (.string bytes) => bytes.length + 1
  | .lit _ => 1
  | .nil => 1
  | .ptr d => uptoBulk d + 1
  | .slice elems spare => uptoBulkAll elems + uptoBulkAll spare + 1
  | .agg parts => uptoBulkAll parts + 1
  | .iface _ d => uptoBulk d + 1
  | .map entries => uptoBulkEntries entries + 1
  | .held _ => 1
def uptoBulkAll {H : Type} : List (DataW H) → Nat
  | [] => 0
  | d :: r => uptoBulk d + uptoBulkAll r
def uptoBulkEntries {H : Type} : List (Lit × DataW H) → Nat
  | [] => 0
  | x :: r => uptoBulkEntry x + uptoBulkEntries r
def uptoBulkEntry {H : Type} : Lit × DataW H → Nat
  | (.string bytes, d) => bytes.length + uptoBulk d + 1
  | (_, d) => uptoBulk d + 1
 end
def uptoSmall : (H : Type) → List (DataW H) → Bool := fun _ ds => decide (uptoBulkAll ds ≤ 1048576)
def OpenSpec.upto (s : _root_.Go.ChangeSpec) : _root_.Go.OpenSpec := { _root_.Go.OpenSpec.ofChange s with cond := some uptoSmall }

/-- 'consistorylaw17.CertsShare', WHERE WHAT IT READS IS OF BULK AT MOST 1048576: true; the input reads as it did. -/
def certsShareUptoRow : OpenClaim := { program := "ytgjkgdjjolnhdaadoor", sum := "a7e115c9b827ffaf237cb8ed76ffbe2b4d694ec36f34ab100f2cc185978f1ec0", func := "consistory/consistorylaw17.CertsShare", spec := "certsShare", unfollowed := true, recurses := true, named := ["math/bits.deBruijn32tab"], plainKeys := false, apart := false, laid := [("math/bits.deBruijn32tab", laid_math_bits_deBruijn32tab)], narrowed := true }
def CertsShareUptoSaid : Prop := certsShareUptoRow.holds Tryd.pinned (OpenSpec.upto certsShareSpec)

/-- 'consistorylaw17.CertsMore', WHERE WHAT IT READS IS OF BULK AT MOST 1048576: true; the input reads as it did. -/
def certsMoreUptoRow : OpenClaim := { program := "ytgjkgdjjolnhdaadoor", sum := "a7e115c9b827ffaf237cb8ed76ffbe2b4d694ec36f34ab100f2cc185978f1ec0", func := "consistory/consistorylaw17.CertsMore", spec := "certsMore", unfollowed := true, recurses := true, named := ["math/bits.deBruijn32tab"], plainKeys := false, apart := false, laid := [("math/bits.deBruijn32tab", laid_math_bits_deBruijn32tab)], narrowed := true }
def CertsMoreUptoSaid : Prop := certsMoreUptoRow.holds Tryd.pinned (OpenSpec.upto certsMoreSpec)

/-- 'consistorylaw17.CertsWho', WHERE WHAT IT READS IS OF BULK AT MOST 1048576: true; the input reads as it did. -/
def certsWhoUptoRow : OpenClaim := { program := "ytgjkgdjjolnhdaadoor", sum := "a7e115c9b827ffaf237cb8ed76ffbe2b4d694ec36f34ab100f2cc185978f1ec0", func := "consistory/consistorylaw17.CertsWho", spec := "certsWho", unfollowed := true, recurses := true, named := ["math/bits.deBruijn32tab"], plainKeys := false, apart := false, laid := [("math/bits.deBruijn32tab", laid_math_bits_deBruijn32tab)], narrowed := true }
def CertsWhoUptoSaid : Prop := certsWhoUptoRow.holds Tryd.pinned (OpenSpec.upto certsWhoSpec)

/-- 'consistorylaw17.CertsLeast', WHERE WHAT IT READS IS OF BULK AT MOST 1048576: true; the input reads as it did. -/
def certsLeastUptoRow : OpenClaim := { program := "ytgjkgdjjolnhdaadoor", sum := "a7e115c9b827ffaf237cb8ed76ffbe2b4d694ec36f34ab100f2cc185978f1ec0", func := "consistory/consistorylaw17.CertsLeast", spec := "certsLeast", unfollowed := true, recurses := true, named := ["math/bits.deBruijn32tab"], plainKeys := false, apart := false, laid := [("math/bits.deBruijn32tab", laid_math_bits_deBruijn32tab)], narrowed := true }
def CertsLeastUptoSaid : Prop := certsLeastUptoRow.holds Tryd.pinned (OpenSpec.upto certsLeastSpec)

/-- 'consistorylaw18.InstStays', WHERE WHAT IT READS IS OF BULK AT MOST 1048576: true; the input reads as it did. -/
def instStaysUptoRow : OpenClaim := { program := "ytgjkgdjjolnhdaadoor", sum := "a7e115c9b827ffaf237cb8ed76ffbe2b4d694ec36f34ab100f2cc185978f1ec0", func := "consistory/consistorylaw18.InstStays", spec := "instStays", unfollowed := true, recurses := true, named := ["math/bits.deBruijn32tab"], plainKeys := false, apart := false, laid := [("math/bits.deBruijn32tab", laid_math_bits_deBruijn32tab)], narrowed := true }
def InstStaysUptoSaid : Prop := instStaysUptoRow.holds Tryd.pinned (OpenSpec.upto instStaysSpec)

/-- 'consistorylaw18.InstProves', WHERE WHAT IT READS IS OF BULK AT MOST 1048576: true; the input reads as it did. -/
def instProvesUptoRow : OpenClaim := { program := "ytgjkgdjjolnhdaadoor", sum := "a7e115c9b827ffaf237cb8ed76ffbe2b4d694ec36f34ab100f2cc185978f1ec0", func := "consistory/consistorylaw18.InstProves", spec := "instProves", unfollowed := true, recurses := true, named := ["math/bits.deBruijn32tab"], plainKeys := false, apart := false, laid := [("math/bits.deBruijn32tab", laid_math_bits_deBruijn32tab)], narrowed := true }
def InstProvesUptoSaid : Prop := instProvesUptoRow.holds Tryd.pinned (OpenSpec.upto instProvesSpec)

/-- 'consistorylaw18.InstOrder', WHERE WHAT IT READS IS OF BULK AT MOST 1048576: true; the input reads as it did. -/
def instOrderUptoRow : OpenClaim := { program := "ytgjkgdjjolnhdaadoor", sum := "a7e115c9b827ffaf237cb8ed76ffbe2b4d694ec36f34ab100f2cc185978f1ec0", func := "consistory/consistorylaw18.InstOrder", spec := "instOrder", unfollowed := true, recurses := true, named := ["math/bits.deBruijn32tab"], plainKeys := false, apart := false, laid := [("math/bits.deBruijn32tab", laid_math_bits_deBruijn32tab)], narrowed := true }
def InstOrderUptoSaid : Prop := instOrderUptoRow.holds Tryd.pinned (OpenSpec.upto instOrderSpec)

/-- 'consistorylaw18.InstNil', WHERE WHAT IT READS IS OF BULK AT MOST 1048576: true; the input reads as it did. -/
def instNilUptoRow : OpenClaim := { program := "ytgjkgdjjolnhdaadoor", sum := "a7e115c9b827ffaf237cb8ed76ffbe2b4d694ec36f34ab100f2cc185978f1ec0", func := "consistory/consistorylaw18.InstNil", spec := "instNil", unfollowed := true, recurses := true, named := ["math/bits.deBruijn32tab"], plainKeys := false, apart := false, laid := [("math/bits.deBruijn32tab", laid_math_bits_deBruijn32tab)], narrowed := true }
def InstNilUptoSaid : Prop := instNilUptoRow.holds Tryd.pinned (OpenSpec.upto instNilSpec)

end Rows
end Go.Proofs.YtgjkgdjjolnhdaaDoor
