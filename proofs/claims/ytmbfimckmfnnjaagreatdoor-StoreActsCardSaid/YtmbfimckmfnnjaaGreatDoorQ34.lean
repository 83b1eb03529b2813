/- Steps of the proof of a law. -/
import Derived.Test.YtmbfimckmfnnjaaGreatDoorQ23
set_option maxRecDepth 100000
set_option maxHeartbeats 1000000
set_option linter.unusedSimpArgs false
set_option linter.unusedVariables false
namespace Go.Proofs.YtmbfimckmfnnjaaGreatDoor
open Go.RowKit Go.Sx Go.Proofs.Tryz
def fx(n:Int)(v:af):Int:=if 1<v.kind/\n<v.slot then v.slot else n
def bZ(vs:List af):Int:=vs.foldl fx 0
def jx(p:Int×Int)(v:af):Int×Int:=if v.kind=1/\(p.1<v.view∨(v.view=p.1/\p.2<v.dZ))then(v.view,v.dZ)else p
def fX(vs:List af):Int×Int:=vs.foldl jx (-1,-1)
def td(s:Int)(a:bG)(v:af):Bool:=decide (v.kind=2)&&decide (v.slot=s)&&decide (v.view=a.view)&&decide (v.dZ=a.dZ)
def cj(vs:List af)(a:bG):Option af:=vs.find? (td (bZ vs) a)
def gO(s:Int)(o:Option af)(v:af):Option af:=
 if v.kind≠3∨v.slot≠s then o else match o with
   |none=>some v
   |some u=>if u.view<v.view∨(v.view=u.view/\u.dZ<v.dZ)then some v else o
def ig(vs:List af):Option af:=vs.foldl (gO (bZ vs)) none
variable {w0:World} {H:List SA} {a:Option Addr} {vs:List af} {c:Nat} {α:Type}
theorem fc{β:Type}(f:β->α->β)(b:β)(l:List α)(k:Nat)(hk:k<l.length):(l.take (k+1)).foldl f b=f ((l.take k).foldl f b) l[k]:=by
 rw[Xf hk,X0];rfl
theorem vO(p:α->Bool)(l:List α)(k:Nat)(hk:k<l.length)(h:(l.take k).any p=false)(hp:p l[k]=true):l.find? p=some l[k]:=by
 induction l generalizing k with
 |nil=>simp at hk
 |cons x l ih=>
   cases k with
   |zero=>simp at hp ⊢;exact .inl hp
   |succ k=>
     simp only[List.take_succ_cons,List.any_cons,Bool.or_eq_false_iff]at h;rw[YM,h.1];simpa using ih k abf h.2 agQ
theorem GG(p:α->Bool)(l:List α)(h:l.any p=false):l.find? p=none:=by
 rw[YR];rw[List.any_eq_false]at h;exact h
theorem AP[hr:gy w0 H (.slice a vs.length c) 38 (vs.flatMap af.list)](hn:vs.length<=1000000):CT prog w0 (H) 157 [.slice a vs.length c] (α:=Unit) (fun _=> .int .i64 (bZ vs)) (fun _=>H):=by
 refine al func157 rfl ntmps157 rfl (gG ?_);refine bH [3,4,5,6,7,8,9,10,11,12,13,14,15,16,17,18,19,20,21,22,23,24,25,26,27,28,29,30] [4,3] (fun us H'=>∃i:Nat,us=[.int .i64 (i:Int),.int .i64 ((vs.take i).foldl fx 0)]/\H=H'/\i<=vs.length) (fun us=>match us with| .int _ i::_=>vs.length-i.toNat|_=>0) ⟨0,rfl,rfl,om⟩ SB ?_;rintro τ0 _ _ ⟨i,rfl,rfl,hi0⟩ _;refine gG ?_;refine yC ?_ ?_<;>intro h8 p8
 ·have hi:i<vs.length:=om;refine gG ?_;refine Z2 ?_;refine yS 17 ?_ ?_<;>intro h17 p17<;>refine gG ?_
  ·refine Zo ?_;refine ZD ?_;refine Z3 ?_;refine yC ?_ ?_<;>intro h25 p25
   ·have hstep:fx ((vs.take i).foldl fx 0) vs[i]=vs[i].slot:=if_pos (by first|exact⟨om,om⟩|simp_all);refine gG ?_;refine zq (bn rfl rfl om om) rfl (zq (cm rfl 38 (fw hi)) rfl (zq (cE 38 (.int .i64 _) rfl (fA vs i 3 hi dc inferInstance)) rfl ?_));refine gA ?_;refine bW _ zA (⟨i+1,by rw[fc fx 0 vs i hi,hstep];rfl,rfl,om⟩) aaA (SB)
   have hstep:fx ((vs.take i).foldl fx 0) vs[i]=(vs.take i).foldl fx 0:=if_neg ab9;refine gA ?_;refine bW _ zA (⟨i+1,by rw[fc fx 0 vs i hi,hstep];rfl,rfl,om⟩) aaA (SB)
  refine bM rfl rfl ?_;have hstep:fx ((vs.take i).foldl fx 0) vs[i]=(vs.take i).foldl fx 0:=if_neg ab9;refine gA ?_;refine bW _ zA (⟨i+1,by rw[fc fx 0 vs i hi,hstep];rfl,rfl,om⟩) aaA (SB)
 have et:vs.take i=vs:=W7 om;refine gG ?_;refine Za ?_;exact zX () [_] results157 ⟨rfl,trivial⟩ (by show Value.int .i64 ((vs.take i).foldl fx 0)=_;rw[et];rfl) SB
theorem Nq[hr:gy w0 H (.slice a vs.length c) 38 (vs.flatMap af.list)](hn:vs.length<=1000000):CT prog w0 (H) 100 [.slice a vs.length c] (α:=Unit) (fun _=> .tuple #[.int .i64 (fX vs).1,.int .i64 (fX vs).2]) (fun _=>H):=by
 refine al func100 rfl ntmps100 rfl (gG ?_);refine bH [4,5,6,7,8,9,10,11,12,13,14,15,16,17,18,19,20,21,22,23,24,25,26,27,28,29,30,31,32,33,34,35,36,37,38,39,40,41,42] [6,4,5] (fun us H'=>∃i:Nat,us=[.int .i64 (i:Int),.int .i64 ((vs.take i).foldl jx (-1,-1)).1,.int .i64 ((vs.take i).foldl jx (-1,-1)).2]/\H=H'/\i<=vs.length) (fun us=>match us with| .int _ i::_=>vs.length-i.toNat|_=>0) ⟨0,rfl,rfl,om⟩ SB ?_;rintro τ0 _ _ ⟨i,rfl,rfl,hi0⟩ _;refine gG ?_;refine yC ?_ ?_<;>intro h11 p11
 ·have hi:i<vs.length:=om;refine gG ?_;refine af7 ?_;refine ze rfl (an (fun b7=>?_));refine aag ?_;refine yS 21 ?_ ?_<;>intro h21 p21<;>refine gG ?_
  ·refine yS 26 ?_ ?_<;>intro h26 p26<;>refine gG ?_
   ·refine aI rfl rfl ?_;have hstep:jx ((vs.take i).foldl jx (-1,-1)) vs[i]=(vs[i].view,vs[i].dZ):=if_pos ab9;refine gA ?_;refine bW _ zA (⟨i+1,by rw[fc jx (-1,-1) vs i hi,hstep];rfl,rfl,om⟩) aaA (SB)
   refine yS 31 ?_ ?_<;>intro h31 p31<;>refine gG ?_
   ·refine yC ?_ ?_<;>intro h38 p38
    ·have hstep:jx ((vs.take i).foldl jx (-1,-1)) vs[i]=(vs[i].view,vs[i].dZ):=if_pos ab9;refine gA ?_;refine bW _ zA (⟨i+1,by rw[fc jx (-1,-1) vs i hi,hstep];rfl,rfl,om⟩) aaA (SB)
    have hstep:jx ((vs.take i).foldl jx (-1,-1)) vs[i]=((vs.take i).foldl jx (-1,-1)):=if_neg ab9;refine gA ?_;refine bW _ zA (⟨i+1,by rw[fc jx (-1,-1) vs i hi,hstep];rfl,rfl,om⟩) aaA (SB)
   refine bM rfl rfl ?_;have hstep:jx ((vs.take i).foldl jx (-1,-1)) vs[i]=((vs.take i).foldl jx (-1,-1)):=if_neg ab9;refine gA ?_;refine bW _ zA (⟨i+1,by rw[fc jx (-1,-1) vs i hi,hstep];rfl,rfl,om⟩) aaA (SB)
  refine bM rfl rfl ?_;have hstep:jx ((vs.take i).foldl jx (-1,-1)) vs[i]=((vs.take i).foldl jx (-1,-1)):=if_neg ab9;refine gA ?_;refine bW _ zA (⟨i+1,by rw[fc jx (-1,-1) vs i hi,hstep];rfl,rfl,om⟩) aaA (SB)
 have et:vs.take i=vs:=W7 om;refine gG ?_;refine Za ?_;exact zX () [_,_] results100 ⟨rfl,rfl,trivial⟩ (by show Value.tuple #[.int .i64 ((vs.take i).foldl jx (-1,-1)).1,.int .i64 ((vs.take i).foldl jx (-1,-1)).2]=_;rw[et];rfl) SB
theorem BP[hr:gy w0 H (.slice a vs.length c) 38 (vs.flatMap af.list)](hn:vs.length<=1000000){view dZ:Int}:CT prog w0 (H) 101 [.slice a vs.length c,.int .i64 view,.int .i64 dZ] (α:=Unit) (fun _=> .tuple #[.agg ((cj vs ⟨view,dZ⟩).getD af.zero).cells,.bool (cj vs ⟨view,dZ⟩).isSome]) (fun _=>H):=by
 refine al func101 rfl ntmps101 rfl (gG ?_);refine ze rfl (an (fun b6=>gG ?_));refine ze rfl (zc (AP hn) rfl (fun x11=>gG ?_));refine bH [7,9,12,13,14,15,16,17,18,19,20,21,22,23,24,25,26,27,28,29,30,31,32,33,34,35,36,37,38,39,40,41,42,43,44,45,46,47,48,49,50,51,52,53,54] [9] (fun us H'=>∃i:Nat,us=[.int .i64 (i:Int)]/\aF b6 (.cells af.zero.cells 57 (0,0))::H=H'/\i<=vs.length/\(vs.take i).any (td (bZ vs) ⟨view,dZ⟩)=false) (fun us=>match us with| .int _ i::_=>vs.length-i.toNat|_=>0) ⟨0,rfl,rfl,om,rfl⟩ SB ?_;rintro τ0 _ _ ⟨i,rfl,rfl,hi0,hpre⟩ _;refine gG ?_;refine yC ?_ ?_<;>intro h15 p15
 ·have hi:i<vs.length:=om;refine gG ?_;refine Z2 ?_;refine yS 24 ?_ ?_<;>intro h24 p24<;>refine gG ?_
  ·refine Zo ?_;refine ZD ?_;refine Z3 ?_;refine yS 33 ?_ ?_<;>intro h33 p33<;>refine gG ?_
   ·refine Zo ?_;refine ZD ?_;refine zq (cE 38 (.int .i64 _) rfl (fA vs i 1 hi dc inferInstance)) rfl ?_;refine gG ?_;refine yS 42 ?_ ?_<;>intro h42 p42<;>refine gG ?_
    ·refine Zo ?_;refine ZD ?_;refine zq (cE 38 (.int .i64 _) rfl (fA vs i 2 hi dc inferInstance)) rfl ?_;refine gG ?_;refine yC ?_ ?_<;>intro h50 p50
     ·have hfound:cj vs ⟨view,dZ⟩=some vs[i]:=vO _ vs i hi hpre aeP;refine gG ?_;refine af7 ?_;refine aag ?_;refine Zd ?_;exact zX () [_,_] results101 ⟨⟨_,rfl,ak rfl⟩,rfl,trivial⟩ (by rw[hfound];rfl) SB
     have hstep:td (bZ vs) ⟨view,dZ⟩ vs[i]=false:=aeP;refine gA ?_;refine bW _ zA (⟨i+1,rfl,rfl,om,iP _ vs i hi hpre hstep⟩) aaA (SB)
    refine bM rfl rfl ?_;have hstep:td (bZ vs) ⟨view,dZ⟩ vs[i]=false:=aeP;refine gA ?_;refine bW _ zA (⟨i+1,rfl,rfl,om,iP _ vs i hi hpre hstep⟩) aaA (SB)
   refine bM rfl rfl ?_;have hstep:td (bZ vs) ⟨view,dZ⟩ vs[i]=false:=aeP;refine gA ?_;refine bW _ zA (⟨i+1,rfl,rfl,om,iP _ vs i hi hpre hstep⟩) aaA (SB)
  refine bM rfl rfl ?_;have hstep:td (bZ vs) ⟨view,dZ⟩ vs[i]=false:=aeP;refine gA ?_;refine bW _ zA (⟨i+1,rfl,rfl,om,iP _ vs i hi hpre hstep⟩) aaA (SB)
 have et:vs.take i=vs:=W7 om;rw[et]at hpre;have hlost:cj vs ⟨view,dZ⟩=none:=GG _ vs hpre;refine gG ?_;refine Za ?_;refine aaC ?_;refine aag ?_;exact zX () [_,_] results101 ⟨⟨_,rfl,ak rfl⟩,rfl,trivial⟩ (by rw[hlost];rfl) SB
theorem ui{w0:World}{H:List SA}{a:Option Addr}{vs:List af}{c:Nat}[hr:gy w0 H (.slice a vs.length c) 38 (vs.flatMap af.list)](hn:vs.length<=1000000):CT prog w0 (H) 102 [.slice a vs.length c] (α:=Unit) (fun _=> .tuple #[.agg ((ig vs).getD af.zero).cells,.bool (ig vs).isSome]) (fun _=>H):=by
 refine al func102 rfl ntmps102 rfl ?_;refine jK ?_;refine ey ?_;refine Nh rfl (an (fun b2=>?_));refine ady ?_;refine fJ ?_;refine eS ?_;refine jK ?_;refine ey ?_;refine ac9 ?_;refine Nh rfl (FC (AP hn) rfl (fun x8=>?_));refine abh ?_;refine fJ ?_;refine eS ?_;refine jK ?_;refine ey ?_;refine abh ?_;refine fJ ?_;refine eS ?_;refine jK ?_;refine jK ?_;refine ey ?_;refine abh ?_;refine fJ ?_;refine eS ?_;refine sx ?_;refine bH [5,6,9,10,11,12,13,14,15,16,17,18,19,20,21,22,23,24,25,26,27,28,29,30,31,32,33,34,35,36,37,38,39,40,41,42,43,44,45,46,47,48,49,50,51,52,53,54,55,56,57,58,59,60,61,62,63,64,65,66,67,68,69,70,71] [6,5] (fun us H'=>∃(i:Nat)(b:Int),us=[.int .i64 (i:Int),.int .i64 b]/\aF b2 (.cells af.zero.cells 57 (0,0))::H=H'/\i<=vs.length/\((b= -1/\((vs.take i).foldl (gO (bZ vs)) none)=none)∨∃j:Nat,j<i/\b=(j:Int)/\((vs.take i).foldl (gO (bZ vs)) none)=vs[j]?)) (fun us=>match us with| .int _ i::_=>vs.length-i.toNat|_=>0) ⟨0,-1,rfl,rfl,om,.inl ⟨rfl,rfl⟩⟩ (cJ.st inferInstance) ?_;rintro τ0 _ _ ⟨i,b,rfl,rfl,hi0,hb⟩ _;refine jK ?_;refine jK ?_;refine ey ?_;refine aaW ?_;refine ac9 ?_;refine cD (lN rfl underlying52) rfl ?_;refine agG ?_;refine fJ ?_;refine eS ?_;refine qK rfl (fun h12=>?_) (fun h12=>?_)
 ·
   have p12:=h12
   try simp only[dp]at p12
   have hi:i<vs.length:=om;refine oe ?_;refine eS ?_;refine jK ?_;refine sx ?_;refine jK ?_;refine jK ?_;refine ey ?_;refine ac9 ?_;refine aaW ?_;refine afG ?_;refine cD (cm rfl 38 (fw hi)) rfl ?_;refine cD (cE 38 (.int .i64 _) rfl (fA vs i 0 hi dc inferInstance)) rfl ?_;refine cD (qU rfl rfl) rfl ?_;refine cD (cg (.bool _) rfl) rfl ?_;refine uP 21 rfl (fun h21=>?_) (fun h21=>?_)
   ·
     have p21:=h21
     try simp only[dp]at p21
     refine ac4 ?_;refine ac4 ?_;refine ac4 ?_;refine ac4 ?_;refine ac4 ?_;refine ac4 ?_;refine ac4 ?_;refine cD (jy (.bool _) rfl h21 rfl) rfl ?_;refine fJ ?_;refine eS ?_;refine aI rfl rfl ?_;have hnext:(b= -1/\(vs.take (i+1)).foldl (gO (bZ vs)) none=none)∨∃j2:Nat,j2<i+1/\b=(j2:Int)/\(vs.take (i+1)).foldl (gO (bZ vs)) none=vs[j2]? :=by
       rw[fc _ none vs i hi,show gO (bZ vs) ((vs.take i).foldl (gO (bZ vs)) none) vs[i]=((vs.take i).foldl (gO (bZ vs)) none)from if_pos afc];exact agX
     refine ti ?_;refine kh ?_;refine jw ?_;refine eS ?_;refine ey ?_;refine aaW ?_
     first
       |refine cD (gh rfl rfl om om) rfl ?_
       |refine cD (bU rfl rfl) rfl ?_
     refine abh ?_;refine fJ ?_;refine bW _ aa9 (⟨i+1,_,rfl,rfl,om,hnext⟩) aaA ((cJ.st inferInstance))
   ·
     have p21:=h21
     try simp only[dp]at p21
     refine adr ?_;refine ac9 ?_;refine adr ?_;refine aaW ?_;refine adr ?_;refine afG ?_;refine adr ?_;refine cD (cm rfl 38 (fw hi)) rfl ?_;refine adr ?_;refine cD (cE 38 (.int .i64 _) rfl (fA vs i 3 hi dc inferInstance)) rfl ?_;refine adr ?_;refine aaW ?_;refine adr ?_;refine cD (qU rfl rfl) rfl ?_;refine cD (kc (.bool _) rfl h21 rfl) rfl ?_;refine fJ ?_;refine eS ?_;refine qK rfl (fun h29=>?_) (fun h29=>?_)
     ·
       have p29:=h29
       try simp only[dp]at p29
       have hnext:(b= -1/\(vs.take (i+1)).foldl (gO (bZ vs)) none=none)∨∃j2:Nat,j2<i+1/\b=(j2:Int)/\(vs.take (i+1)).foldl (gO (bZ vs)) none=vs[j2]? :=by
         rw[fc _ none vs i hi,show gO (bZ vs) ((vs.take i).foldl (gO (bZ vs)) none) vs[i]=((vs.take i).foldl (gO (bZ vs)) none)from if_pos afc];exact agX
       refine ti ?_;refine kh ?_;refine jw ?_;refine eS ?_;refine ey ?_;refine aaW ?_
       first
         |refine cD (gh rfl rfl om om) rfl ?_
         |refine cD (bU rfl rfl) rfl ?_
       refine abh ?_;refine fJ ?_;refine bW _ aa9 (⟨i+1,_,rfl,rfl,om,hnext⟩) aaA ((cJ.st inferInstance))
     ·
       have p29:=h29
       try simp only[dp]at p29
       refine oe ?_;refine eS ?_;refine jK ?_;refine vC _ [(0,true),(1,true),(2,true),(3,true),(4,true),(5,true),(6,true),(7,true),(8,true),(9,true),(10,true),(11,true),(12,true),(13,true),(14,true),(15,true),(16,true),(17,true),(18,true),(19,true),(20,true),(21,true),(22,true),(23,true),(24,true),(25,true),(26,true),(27,true),(28,true),(29,true),(30,true),(31,true),(32,true),(33,true),(34,true),(35,true),(36,true),(37,true),(38,true),(39,true),(40,true)] kr kr rfl kr (fun _ hh=>hh) (fun hns0=>?_);rcases hb with⟨rfl,hf⟩|⟨j,hj,rfl,hf⟩
       ·
         refine ahE ?_;refine aiM ?_;refine adK ?_;refine oT 32 rfl (fun h32=>?_) (fun h32=>?_)
         ·
           have p32:=h32
           try simp only[dp]at p32
           refine aaQ ?_;refine aaQ ?_;refine aaQ ?_;refine aaQ ?_;refine aaQ ?_;refine aaQ ?_;refine aaQ ?_;refine aaQ ?_;refine aaQ ?_;refine aaQ ?_;refine aaQ ?_;refine jf hns0 rfl (jy (.bool _) rfl h32 rfl) rfl ?_;refine adK ?_;refine abp ?_;refine abp ?_;refine abp ?_;refine abp ?_;refine abp ?_;refine abp ?_;refine abp ?_;refine abp ?_;refine abp ?_;refine abp ?_;refine abp ?_;refine abp ?_;refine aaR ?_;refine aaR ?_;refine aaR ?_;refine aaR ?_;refine aaR ?_;refine aaR ?_;refine aaR ?_;refine aaR ?_;refine aaR ?_;refine aaR ?_;refine aaR ?_;refine abp ?_;refine jf hns0 rfl (jy (.bool _) rfl rfl rfl) rfl ?_;refine gz ?_;refine eS ?_;refine aI rfl rfl ?_;have hn3:¬(vs[i].kind≠3∨vs[i].slot≠bZ vs):=afc;have hnext:((i:Int)= -1/\(vs.take (i+1)).foldl (gO (bZ vs)) none=none)∨∃j2:Nat,j2<i+1/\(i:Int)=(j2:Int)/\(vs.take (i+1)).foldl (gO (bZ vs)) none=vs[j2]? := .inr ⟨i,om,rfl,by
             rw[fc _ none vs i hi,hf,WW hi];unfold gO;rw[if_neg hn3]⟩
           refine ey ?_;refine aaW ?_;refine abh ?_;refine fJ ?_;refine mv ?_;refine eS ?_;refine ey ?_;refine aaW ?_
           first
             |refine cD (gh rfl rfl om om) rfl ?_
             |refine cD (bU rfl rfl) rfl ?_
           refine abh ?_;refine fJ ?_;refine bW _ aa9 (⟨i+1,_,rfl,rfl,om,hnext⟩) aaA ((cJ.st inferInstance))
         ·
           have p32:=h32
           try simp only[dp]at p32
           all_goals omega
       ·
         refine ahE ?_;refine aiM ?_;refine adK ?_;refine oT 32 rfl (fun h32=>?_) (fun h32=>?_)
         ·
           have p32:=h32
           try simp only[dp]at p32
           all_goals omega
         ·
           have p32:=h32
           try simp only[dp]at p32
           have hjn:j<vs.length:=om;refine agh ?_;refine agr ?_;refine agS ?_;refine agK ?_;refine bB hns0 rfl rfl rfl h32 (cE 38 (.int .i64 _) rfl (fA vs i 1 hi dc inferInstance)) rfl ?_;refine agh ?_;refine agr ?_;refine agS ?_;refine agK ?_;refine bB hns0 rfl rfl rfl h32 (cE 38 (.int .i64 _) rfl (fA vs j 1 hjn dc inferInstance)) rfl ?_;refine bB hns0 rfl rfl rfl h32 (sU rfl rfl) rfl ?_;refine jf hns0 rfl (kc (.bool _) rfl h32 rfl) rfl ?_;refine adK ?_;refine oT 45 rfl (fun h45=>?_) (fun h45=>?_)
           ·
             have p45:=h45
             try simp only[dp]at p45
             refine abq ?_;refine abq ?_;refine abq ?_;refine abq ?_;refine abq ?_;refine abq ?_;refine abq ?_;refine abq ?_;refine abq ?_;refine abq ?_;refine abq ?_;refine abq ?_;refine aaR ?_;refine aaR ?_;refine aaR ?_;refine aaR ?_;refine aaR ?_;refine aaR ?_;refine aaR ?_;refine aaR ?_;refine aaR ?_;refine aaR ?_;refine aaR ?_;refine abq ?_;refine jf hns0 rfl (jy (.bool _) rfl h45 rfl) rfl ?_;refine gz ?_;refine eS ?_;refine aI rfl rfl ?_;have hn3:¬(vs[i].kind≠3∨vs[i].slot≠bZ vs):=afc;have hnext:((i:Int)= -1/\(vs.take (i+1)).foldl (gO (bZ vs)) none=none)∨∃j2:Nat,j2<i+1/\(i:Int)=(j2:Int)/\(vs.take (i+1)).foldl (gO (bZ vs)) none=vs[j2]? := .inr ⟨i,om,rfl,by
               rw[fc _ none vs i hi,hf,WW hi,WW (show j<vs.length by omega)];unfold gO;rw[if_neg hn3];exact if_pos ab9⟩
             refine ey ?_;refine aaW ?_;refine abh ?_;refine fJ ?_;refine mv ?_;refine eS ?_;refine ey ?_;refine aaW ?_
             first
               |refine cD (gh rfl rfl om om) rfl ?_
               |refine cD (bU rfl rfl) rfl ?_
             refine abh ?_;refine fJ ?_;refine bW _ aa9 (⟨i+1,_,rfl,rfl,om,hnext⟩) aaA ((cJ.st inferInstance))
           ·
             have p45:=h45
             try simp only[dp]at p45
             refine agi ?_;refine ags ?_;refine agT ?_;refine agL ?_;refine bB hns0 rfl rfl rfl h45 (cE 38 (.int .i64 _) rfl (fA vs i 1 hi dc inferInstance)) rfl ?_;refine agi ?_;refine ags ?_;refine agT ?_;refine agL ?_;refine bB hns0 rfl rfl rfl h45 (cE 38 (.int .i64 _) rfl (fA vs j 1 hjn dc inferInstance)) rfl ?_;refine bB hns0 rfl rfl rfl h45 (ph rfl rfl) rfl ?_;refine bB hns0 rfl rfl rfl h45 (cg (.bool _) rfl) rfl ?_;refine oT 57 rfl (fun h57=>?_) (fun h57=>?_)
             ·
               have p57:=h57
               try simp only[dp]at p57
               refine agj ?_;refine agt ?_;refine agU ?_;refine agM ?_;refine bB hns0 rfl rfl rfl h57 (cE 38 (.int .i64 _) rfl (fA vs i 2 hi dc inferInstance)) rfl ?_;refine agj ?_;refine agt ?_;refine agU ?_;refine agM ?_;refine bB hns0 rfl rfl rfl h57 (cE 38 (.int .i64 _) rfl (fA vs j 2 hjn dc inferInstance)) rfl ?_;refine bB hns0 rfl rfl rfl h57 (sU rfl rfl) rfl ?_;refine bB hns0 rfl rfl rfl h45 (jy (.bool _) rfl h57 rfl) rfl ?_;refine ahd ?_;refine gz ?_;refine eS ?_;refine qK rfl (fun h70=>?_) (fun h70=>?_)
               ·
                 have p70:=h70
                 try simp only[dp]at p70
                 have hn3:¬(vs[i].kind≠3∨vs[i].slot≠bZ vs):=afc;have hnext:((i:Int)= -1/\(vs.take (i+1)).foldl (gO (bZ vs)) none=none)∨∃j2:Nat,j2<i+1/\(i:Int)=(j2:Int)/\(vs.take (i+1)).foldl (gO (bZ vs)) none=vs[j2]? := .inr ⟨i,om,rfl,by
                   rw[fc _ none vs i hi,hf,WW hi,WW (show j<vs.length by omega)];unfold gO;rw[if_neg hn3];exact if_pos ab9⟩
                 refine ey ?_;refine aaW ?_;refine abh ?_;refine fJ ?_;refine mv ?_;refine eS ?_;refine ey ?_;refine aaW ?_
                 first
                   |refine cD (gh rfl rfl om om) rfl ?_
                   |refine cD (bU rfl rfl) rfl ?_
                 refine abh ?_;refine fJ ?_;refine bW _ aa9 (⟨i+1,_,rfl,rfl,om,hnext⟩) aaA ((cJ.st inferInstance))
               ·
                 have p70:=h70
                 try simp only[dp]at p70
                 have hn3:¬(vs[i].kind≠3∨vs[i].slot≠bZ vs):=afc;have hnext:((j:Int)= -1/\(vs.take (i+1)).foldl (gO (bZ vs)) none=none)∨∃j2:Nat,j2<i+1/\(j:Int)=(j2:Int)/\(vs.take (i+1)).foldl (gO (bZ vs)) none=vs[j2]? := .inr ⟨j,om,rfl,by
                   rw[fc _ none vs i hi,hf,WW (show j<vs.length by omega)];unfold gO;rw[if_neg hn3];exact if_neg ab9⟩
                 refine oe ?_;refine mv ?_;refine eS ?_;refine ey ?_;refine aaW ?_
                 first
                   |refine cD (gh rfl rfl om om) rfl ?_
                   |refine cD (bU rfl rfl) rfl ?_
                 refine abh ?_;refine fJ ?_;refine bW _ aa9 (⟨i+1,_,rfl,rfl,om,hnext⟩) aaA ((cJ.st inferInstance))
             ·
               have p57:=h57
               try simp only[dp]at p57
               refine abD ?_;refine abD ?_;refine abD ?_;refine abD ?_;refine abD ?_;refine abD ?_;refine abD ?_;refine abD ?_;refine abD ?_;refine abD ?_;refine abD ?_;refine bB hns0 rfl rfl rfl h45 (kc (.bool _) rfl h57 rfl) rfl ?_;refine ahd ?_;refine gz ?_;refine eS ?_;refine bM rfl rfl ?_;have hn3:¬(vs[i].kind≠3∨vs[i].slot≠bZ vs):=afc;have hnext:((j:Int)= -1/\(vs.take (i+1)).foldl (gO (bZ vs)) none=none)∨∃j2:Nat,j2<i+1/\(j:Int)=(j2:Int)/\(vs.take (i+1)).foldl (gO (bZ vs)) none=vs[j2]? := .inr ⟨j,om,rfl,by
                 rw[fc _ none vs i hi,hf,WW (show j<vs.length by omega)];unfold gO;rw[if_neg hn3];exact if_neg ab9⟩
               refine oe ?_;refine mv ?_;refine eS ?_;refine ey ?_;refine aaW ?_
               first
                 |refine cD (gh rfl rfl om om) rfl ?_
                 |refine cD (bU rfl rfl) rfl ?_
               refine abh ?_;refine fJ ?_;refine bW _ aa9 (⟨i+1,_,rfl,rfl,om,hnext⟩) aaA ((cJ.st inferInstance))
 ·
   have p12:=h12
   try simp only[dp]at p12
   have et:vs.take i=vs:=W7 om;rw[et]at hb;refine ti ?_;refine kh ?_;refine tW ?_;refine jw ?_;refine eS ?_;refine jK ?_;refine jK ?_;refine ey ?_;rcases hb with⟨rfl,hf⟩|⟨j,hj,rfl,hf⟩
   ·
     refine aaW ?_;refine agG ?_;refine fJ ?_;refine eS ?_;refine qK rfl (fun h73=>?_) (fun h73=>?_)
     ·
       have p73:=h73
       try simp only[dp]at p73
       have e:ig vs=none:=hf;refine jK ?_;refine ey ?_;refine cD (aA [] rfl kr) rfl ?_;refine Nb (gV rfl rfl (?_));refine ady ?_;refine fJ ?_;refine eS ?_;refine xY ?_;refine nD ?_;exact aeo
     ·
       have p73:=h73
       try simp only[dp]at p73
       all_goals omega
   ·
     refine aaW ?_;refine agG ?_;refine fJ ?_;refine eS ?_;refine qK rfl (fun h73=>?_) (fun h73=>?_)
     ·
       have p73:=h73
       try simp only[dp]at p73
       all_goals omega
     ·
       have p73:=h73
       try simp only[dp]at p73
       have hjn:j<vs.length:=om;have e:ig vs=some vs[j]:=hf.trans (WW hjn);refine oe ?_;refine eS ?_;refine jK ?_;refine ey ?_;refine ac9 ?_;refine aaW ?_;refine afG ?_;refine cD (kl (k:=j) rfl hjn) rfl ?_;refine Nb (gV rfl rfl (?_));refine ady ?_;refine fJ ?_;refine eS ?_;refine xY ?_;exact aeo
def fh(vs:List af)(v:af):Int:=if (cU v.abs).2≠0 then 15 else if 1<v.kind/\v.slot<bZ vs then 7 else 0
theorem Lo[hr:gy w0 H (.slice a vs.length c) 38 (vs.flatMap af.list)](hn:vs.length<=1000000){v:af}[rbv:dT w0 H (.slice v.batch.a v.batch.l.length v.batch.c) v.batch.l][Cd:gy w0 H (.slice v.cert.a v.cert.ls.length v.cert.c) 1 (v.cert.ls.map BS.val)][rev:ju w0 H v.cert.ls](hs:ff v.abs):CT prog w0 (H) 88 [.slice a vs.length c,.agg v.cells] (α:=Unit) (fun _=> .int .i64 (fh vs v)) (fun _=>H):=by
 refine al func88 rfl ntmps88 rfl (gG ?_);refine ze rfl (aZ rfl (fun b3=>gG ?_));refine ze rfl (zc (JG hs) rfl (fun x9=>gG ?_));refine yC ?_ ?_<;>intro h13 p13<;>refine gG ?_
 ·have e:fh vs v=15:=if_pos om;exact acW
 refine dv [(0,true),(1,true),(2,true),(3,true),(4,true),(5,true),(6,true),(7,false),(8,true),(9,true)] (fun hns0=>?_);refine gA ?_;refine yD 17 ?_ ?_<;>intro h17 p17
 ·refine bB hns0 rfl rfl rfl h17 (zf 3 rfl rfl) rfl ?_;refine gA ?_;refine lF rfl rfl rfl h17 rfl (zc (AP hn) rfl (fun x21=>⟨SB,?_⟩));refine gA ?_;refine yC ?_ ?_<;>intro h23 p23<;>refine gG ?_
  ·have e:fh vs v=7:=by unfold fh;rw[if_neg om,if_pos ab9]
   exact acW
  have e:fh vs v=0:=agV;exact acW
 refine gA ?_;refine Zi ?_;have e:fh vs v=0:=agV;exact acW
end Go.Proofs.YtmbfimckmfnnjaaGreatDoor
