/- Steps of the proof of a law. -/
import Derived.Test.YtmbfimckmfnnjaaGreatDoorQ05
import Derived.LaidLaws
import Derived.LaidHandle
import Derived.Lib.LaidIn
set_option maxRecDepth 100000
set_option maxHeartbeats 1000000
set_option linter.unusedSimpArgs false
set_option linter.unusedVariables false
namespace Go.Proofs.YtmbfimckmfnnjaaGreatDoor
open Go.RowKit Go.Sx Go.Proofs.Tryz
theorem Tryz.own:ownKnob Tryz.prog.godebug=none:=kr
theorem Tryz.laidOut:laidOutB prog=true:=kr
def CM:List (String×DataW Unit):=[("math/bits.deBruijn32tab",Rows.laid_math_bits_deBruijn32tab),("math/bits.deBruijn64tab",Rows.laid_math_bits_deBruijn64tab),("internal/strconv.uint64pow10",Rows.laid_internal_strconv_uint64pow10),("strconv.ErrRange",Rows.laid_strconv_ErrRange),("strconv.ErrSyntax",Rows.laid_strconv_ErrSyntax)]
noncomputable def low:Nat:=(World.holding prog default ⟨#[],#[],[]⟩).heap.size
def NC(k:IntKind)(zs:List Int):Obj->Obj
 | .cells _ t frozen=> .cells (zs.map fun z=>Value.int k z).toArray t frozen
 |o=>o
def O7(b:Nat):Obj->Obj
 | .cells _ t frozen=> .cells #[.iface 384 (.pointer (some ⟨b,0,none⟩))] t frozen
 |o=>o
noncomputable def xF(os:Os):World:=
 let w0:=World.holding prog os ⟨#[.cells #[.string ⟨#[105,110,118,97,108,105,100,32,115,121,110,116,97,120]⟩] 386,.cells #[.string ⟨#[118,97,108,117,101,32,111,117,116,32,111,102,32,114,97,110,103,101]⟩] 386],#[],[]⟩
 {w0 with heap:=((((w0.heap.modify 0 (O7 low)).modify 1 (O7 (low+1))).modify 2 (NC .u64 [1,10,100,1000,10000,100000,1000000,10000000,100000000,1000000000,10000000000,100000000000,1000000000000,10000000000000,100000000000000,1000000000000000,10000000000000000,100000000000000000,1000000000000000000,10000000000000000000])).modify 3 (NC .u8 [0,1,28,2,29,14,24,3,30,22,20,15,25,17,4,8,31,27,13,23,21,19,16,7,26,12,18,6,11,5,10,9])).modify 4 (NC .u8 [0,1,56,2,57,49,28,3,61,58,42,50,38,29,17,4,62,47,59,36,45,43,51,22,53,39,33,30,24,18,12,5,63,55,48,27,60,41,37,16,46,35,44,21,52,32,23,11,54,26,40,15,34,20,31,10,25,14,19,9,13,8,7,6])}
set_option maxRecDepth 1000000 in
theorem xh(os:Os)(args:Array Value):laidMetH prog CM ((xF os).forCall (fun _ _=>0) ⟨#[],args,[]⟩).memory:=
 (LaidIn.of_run (l:=CM) [0,1,2,3,4,low,low+1] 8 kr kr kr kr).met
end Go.Proofs.YtmbfimckmfnnjaaGreatDoor
