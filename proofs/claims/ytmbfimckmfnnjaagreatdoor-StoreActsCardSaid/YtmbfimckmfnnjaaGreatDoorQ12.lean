/- Steps of the proof of a law. -/
import Derived.Test.YtmbfimckmfnnjaaGreatDoorQ11
set_option maxRecDepth 100000
set_option maxHeartbeats 1000000
set_option linter.unusedSimpArgs false
set_option linter.unusedVariables false
namespace Go.Proofs.YtmbfimckmfnnjaaGreatDoor
open Go.RowKit Go.Sx Go.Proofs.Tryz
def il(v:dm):Bool:=decide (500<v.batch.length)||decide (20<v.cert.length)||v.cert.any fun c=>decide (300<c.length)
def mq(l:List dm):Bool:=decide (40<l.length)||l.any il
theorem fA(vs:List af)(i j:Nat)(hi:i<vs.length)(hj:j<38){u:Value}(h:aw vs[i].cells j u):(vs.flatMap af.list)[i*38+j]? =some u:=by
 rw[iL af.list 38 af.ae vs i j hi hj];exact s3 (l:=vs[i].list) h
theorem dm.dk(x y:dm):x=y↔x.kind=y.kind/\x.view=y.view/\x.dZ=y.dZ/\x.slot=y.slot/\x.hash=y.hash/\x.batch=y.batch/\x.cert=y.cert:=adW
instance:DecidableEq dm:=fun x y=>decidable_of_iff _ (dm.dk x y).symm
theorem JC{w0:World}{H:List SA}{v u:af}[rbv:dT w0 H (.slice v.batch.a v.batch.l.length v.batch.c) v.batch.l][Cd:gy w0 H (.slice v.cert.a v.cert.ls.length v.cert.c) 1 (v.cert.ls.map BS.val)][rev:ju w0 H v.cert.ls][rbu:dT w0 H (.slice u.batch.a u.batch.l.length u.batch.c) u.batch.l][rcu:gy w0 H (.slice u.cert.a u.cert.ls.length u.cert.c) 1 (u.cert.ls.map BS.val)][reu:ju w0 H u.cert.ls](hb:v.batch.l.length<=4294967296)(hc:v.cert.ls.length<=4294967296)(he1:∀x∈v.cert.ls,x.l.length<=4294967296):CT prog w0 (H) 47 [.agg v.cells,.agg u.cells] (α:=Unit) (fun _=> .bool (decide (v.abs=u.abs))) (fun _=>H):=by
 refine al func47 rfl ntmps47 rfl (gG ?_);refine ze rfl (aZ rfl (fun b2=>?_));refine ze rfl (aZ rfl (fun b3=>gG ?_));refine yS 10 ?_ ?_<;>intro h10 p10<;>refine gG ?_
 ·refine yS 17 ?_ ?_<;>intro h17 p17<;>refine gG ?_
  ·refine yS 24 ?_ ?_<;>intro h24 p24<;>refine gG ?_
   ·refine yS 31 ?_ ?_<;>intro h31 p31<;>refine gG ?_
    ·refine ZJ ?_;refine yS 38 ?_ ?_<;>intro h38 p38<;>refine gG ?_
     ·refine Zu ?_;refine Zu ?_;refine ze rfl (zc (Dr hb) rfl (fun x43=>gG ?_));refine yS 45 ?_ ?_<;>intro h45 p45<;>refine gG ?_
      ·refine Zj ?_;refine Zj ?_;refine ze rfl (zc (ud hc he1) rfl (fun x50=>gG ?_));refine abk ?_;refine aaz ?_;rw[W5];simp only[decide_eq_true_eq,dm.dk];simp only[af.abs];exact abx
      refine abk ?_;refine aaz ?_;rw[W5];simp only[decide_eq_true_eq,dm.dk];simp only[af.abs];exact abx
     refine abk ?_;refine aaz ?_;rw[W5];simp only[decide_eq_true_eq,dm.dk];simp only[af.abs];exact abx
    refine abk ?_;refine aaz ?_;rw[W5];simp only[decide_eq_true_eq,dm.dk];simp only[af.abs];exact abx
   refine abk ?_;refine aaz ?_;rw[W5];simp only[decide_eq_true_eq,dm.dk];simp only[af.abs];exact abx
  refine abk ?_;refine aaz ?_;rw[W5];simp only[decide_eq_true_eq,dm.dk];simp only[af.abs];exact abx
 refine abk ?_;refine aaz ?_;rw[W5];simp only[decide_eq_true_eq,dm.dk];simp only[af.abs];exact abx
theorem MF{w0:World}{H:List SA}{v:af}:CT prog w0 (H) 156 [.agg v.cells] (α:=Unit) (fun _=> .bool (df v.abs)) (fun _=>H):=by
 refine al func156 rfl ntmps156 rfl (gG ?_);refine ze rfl (aZ rfl (fun b1=>gG ?_));refine yS 7 ?_ ?_<;>intro h7 p7<;>refine gG ?_
 ·refine Zc ?_;refine aaF ?_;refine aaz ?_;exact aah
 refine yS 12 ?_ ?_<;>intro h12 p12<;>refine gG ?_
 ·refine Zc ?_;refine aaF ?_;refine aaz ?_;exact aah
 refine yS 17 ?_ ?_<;>intro h17 p17<;>refine gG ?_
 ·refine Zc ?_;refine aaF ?_;refine aaz ?_;exact aah
 refine yS 22 ?_ ?_<;>intro h22 p22<;>refine gG ?_
 ·refine Zc ?_;refine aaF ?_;refine aaz ?_;exact aah
 refine yS 27 ?_ ?_<;>intro h27 p27<;>refine gG ?_
 ·refine Zc ?_;refine aaF ?_;refine aaz ?_;exact aah
 refine yS 32 ?_ ?_<;>intro h32 p32<;>refine gG ?_
 ·refine Zc ?_;refine aaF ?_;refine aaz ?_;exact aah
 refine yS 37 ?_ ?_<;>intro h37 p37<;>refine gG ?_
 ·refine Zc ?_;refine aaF ?_;refine aaz ?_;exact aah
 refine yC ?_ ?_<;>intro h41 p41<;>refine gG ?_
 ·refine aaF ?_;refine aaz ?_;exact aah
 refine zq (ck (aX (zeroV 32)).toArray underlying46 rfl rfl rfl) rfl (zq (j1 rfl rfl kr) rfl ?_);refine gG ?_;refine yS 49 ?_ ?_<;>intro h49 p49<;>refine gG ?_
 ·refine yS 53 ?_ ?_<;>intro h53 p53<;>refine gG ?_
  ·refine Zc ?_;refine aaF ?_;refine aaz ?_;exact aah
  refine yS 57 ?_ ?_<;>intro h57 p57<;>refine gG ?_
  ·refine Zc ?_;refine aaF ?_;refine aaz ?_;exact aah
  refine Zu ?_;refine yC ?_ ?_<;>intro h63 p63<;>refine gG ?_
  ·refine aaF ?_;refine aaz ?_;exact aah
  refine yS 67 ?_ ?_<;>intro h67 p67<;>refine gG ?_
  ·refine aaF ?_;refine aaz ?_;exact aah
  refine Zj ?_;refine aaF ?_;refine aaz ?_;exact aah
 refine Zi ?_;refine yS 67 ?_ ?_<;>intro h67 p67<;>refine gG ?_
 ·refine aaF ?_;refine aaz ?_;exact aah
 refine Zj ?_;refine aaF ?_;refine aaz ?_;exact aah
end Go.Proofs.YtmbfimckmfnnjaaGreatDoor
