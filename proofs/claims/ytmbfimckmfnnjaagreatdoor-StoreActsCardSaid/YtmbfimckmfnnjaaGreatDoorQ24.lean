/- Steps of the proof of a law. -/
import Derived.Test.YtmbfimckmfnnjaaGreatDoorQ17
set_option maxRecDepth 100000
set_option maxHeartbeats 1000000
set_option linter.unusedSimpArgs false
set_option linter.unusedVariables false
namespace Go.Proofs.YtmbfimckmfnnjaaGreatDoor
open Go.RowKit Go.Sx Go.Proofs.Tryz
attribute [local irreducible] fH fF
theorem yR{w0:World}{H:List SA}{c:Int}{o:gn}:CT prog w0 (H) 151 [.int .i64 c,.agg o.cells] (α:=Unit) (fun _=> .bool (aK c o.kind o.key o.a o.b)) (fun _=>H):=by
 refine al func151 rfl ntmps151 rfl (gG ?_);refine ze rfl (aZ rfl (fun b3=>gG ?_));refine yC ?_ ?_<;>intro h6 p6<;>refine gG ?_
 ·refine yS 10 ?_ ?_<;>intro h10 p10<;>refine gG ?_
  ·refine yS 15 ?_ ?_<;>intro h15 p15<;>refine gG ?_
   ·refine yS 20 ?_ ?_<;>intro h20 p20<;>refine gG ?_
    ·refine yS 25 ?_ ?_<;>intro h25 p25<;>refine gG ?_
     ·exact aai
     exact aai
    exact aai
   exact aai
  exact aai
 refine yS 33 ?_ ?_<;>intro h33 p33<;>refine gG ?_
 ·refine Zc ?_;exact aai
 refine yS 38 ?_ ?_<;>intro h38 p38<;>refine gG ?_
 ·refine Zc ?_;exact aai
 refine yS 43 ?_ ?_<;>intro h43 p43<;>refine gG ?_
 ·refine Zc ?_;exact aai
 refine yC ?_ ?_<;>intro h47 p47<;>refine gG ?_
 ·exact aai
 refine yS 51 ?_ ?_<;>intro h51 p51<;>refine gG ?_
 ·refine yC ?_ ?_<;>intro h60 p60<;>refine gG ?_
  ·exact aai
  refine yS 64 ?_ ?_<;>intro h64 p64<;>refine gG ?_
  ·exact aai
  exact aai
 refine yS 56 ?_ ?_<;>intro h56 p56<;>refine gG ?_
 ·refine yC ?_ ?_<;>intro h60 p60<;>refine gG ?_
  ·exact aai
  refine yS 64 ?_ ?_<;>intro h64 p64<;>refine gG ?_
  ·exact aai
  exact aai
 refine Zi ?_;refine yS 64 ?_ ?_<;>intro h64 p64<;>refine gG ?_
 ·exact aai
 exact aai
theorem xG{w0:World}{H:List SA}{r:aJ}:CT prog w0 (H) 228 [.agg r.cells] (α:=Unit) (fun _=> .bool (bh r.abs)) (fun _=>H):=by
 refine al func228 rfl ntmps228 rfl (gG ?_);refine ze rfl (aZ rfl (fun b1=>gG ?_));refine yS 6 ?_ ?_<;>intro h6 p6<;>refine gG ?_
 ·refine yS 11 ?_ ?_<;>intro h11 p11<;>refine gG ?_
  ·refine yS 16 ?_ ?_<;>intro h16 p16<;>refine gG ?_
   ·refine yS 21 ?_ ?_<;>intro h21 p21<;>refine gG ?_
    ·refine ze rfl (zc (yR (c:=r.aG) (o:=r.op)) rfl (fun x26=>gG ?_));refine yS 28 ?_ ?_<;>intro h28 p28<;>refine gG ?_
     ·exact aak
     exact aak
    exact aak
   exact aak
  exact aak
 exact aak
end Go.Proofs.YtmbfimckmfnnjaaGreatDoor
