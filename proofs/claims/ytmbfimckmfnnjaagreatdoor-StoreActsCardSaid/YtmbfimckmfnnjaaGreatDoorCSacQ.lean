/- The law StoreActs holds. -/
import Derived.Test.YtmbfimckmfnnjaaGreatDoorQ51
import Derived.Test.YtmbfimckmfnnjaaGreatDoorQ52
set_option maxRecDepth 100000
set_option maxHeartbeats 1000000
set_option linter.unusedSimpArgs false
set_option linter.unusedVariables false
namespace Go.Proofs.YtmbfimckmfnnjaaGreatDoor
open Go.RowKit Go.Sx Go.Proofs.Tryz
open Go.ChangeShapes Go.WideShapes Go.ChangeAt Go.RowKit Go.Sx
theorem xA:Rows.StoreActsSaid:=
 OpenClaim.holds_of_wide 3 Tryz.f3 rfl rfl rfl rfl rfl rfl rfl ⟨rfl,rfl,rfl,rfl,rfl⟩ rfl rfl rfl rfl rfl kr func3 tw
   (of_decide_eq_true kr) (by unfold Func.isWrapper;first|(rw[if_pos (by decide+kernel)];kernel_rfl)|(rw[if_neg (by decide+kernel)];exact⟨rfl,rfl⟩))
   (fun os started H enc _=>s8 os started H enc)
theorem storeActs_holds:Rows.StoreActsCardSaid:=
 Claim7.holds_tied_plain_at .later [] [.data,.data,.data,.sentinel,.sentinel] true (true, "29fb074e41cfe2de5cbae226d331c1e9063b2074761e86f477c4084cdf820565") true
   xA (fun _ h=>by cases h) kr (fun _ h=>by cases h) storeActs_row_tie rfl ⟨rfl,rfl⟩ we rfl
   (fun f fn hf hfn=>by
     obtain rfl:f=3:=YC ((show Tryz.prog.funcNamed "consistory/consistorylaw21.StoreActs" =some 3 by kernel_rfl).symm.trans hf)|>.symm;obtain rfl:fn=Tryz.f3:=(YC (Tryz.func3.symm.trans hfn)).symm;exact⟨uk,fun j t ht=>by
       rw[params3]at ht;have hm:t∈[22]:=by
         rcases j with _|j<;>simp at ht<;>simp[ht]
       have hall:([22]:List Nat).all (fun t=>Tryz.prog.wantsStandIn t==false)=true:=kr;exact(show Tryz.prog.wantsStandIn t=false from by simpa using Yc.1 hall t hm)⟩)
   wE
end Go.Proofs.YtmbfimckmfnnjaaGreatDoor
