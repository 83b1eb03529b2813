/- Steps of the proof of a law. -/
import Derived.Test.YtmbfimckmfnnjaaGreatDoorRows
import Derived.JoinedOf
import Derived.SevenTiedAt
import Derived.KernelRfl
set_option maxRecDepth 100000
set_option maxHeartbeats 1000000
set_option linter.unusedSimpArgs false
set_option linter.unusedVariables false
namespace Go.Proofs.YtmbfimckmfnnjaaGreatDoor
open Go
theorem vB:(Rows.storeActsRow.inPlace==Tryz.pinned.checked.prog.inPlace 3)=true:=by kernel_rfl
theorem qZ:(Rows.storeActsRow.unfollowed==Tryz.pinned.checked.prog.unfollowed 3)=true:=by kernel_rfl
theorem ur:(Rows.storeActsRow.recurses==Tryz.pinned.checked.prog.recurses 3)=true:=by kernel_rfl
theorem Ax:(Rows.storeActsRow.named==Tryz.pinned.checked.prog.varsNamed 3)=true:=by kernel_rfl
theorem tw:joinedFacts Tryz.pinned.checked.prog 3 Tryz.f3 Rows.storeActsSpec Rows.storeActsRow=true:=by
 unfold joinedFacts;rw[vB,qZ,ur,Ax]
 kernel_rfl
theorem uk:true=Tryz.pinned.checked.prog.looks []:=by kernel_rfl
theorem we:Tryz.pinned.checked.prog.mainIs=some (true,("29fb074e41cfe2de5cbae226d331c1e9063b2074761e86f477c4084cdf820565" :String).toList):=by kernel_rfl
theorem wE:false=Rows.storeActsRow.goesBy Tryz.pinned.checked.prog:=by kernel_rfl
end Go.Proofs.YtmbfimckmfnnjaaGreatDoor
