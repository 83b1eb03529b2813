/- Steps of the proof of a law. -/
import Derived.Test.YtmbfimckmfnnjaaGreatDoorQ27
import Derived.Test.YtmbfimckmfnnjaaGreatDoorQ39
set_option maxRecDepth 100000
set_option maxHeartbeats 1000000
set_option linter.unusedSimpArgs false
set_option linter.unusedVariables false
namespace Go.Proofs.YtmbfimckmfnnjaaGreatDoor
open Go.RowKit Go.Sx Go.Proofs.Tryz
section
attribute [local irreducible] bx au aq ay jP cR ed gk k9 tZ eL cN
theorem Bf{w0:World}{H:List SA}{a:Option Addr}{l:List UInt8}{c:Nat}[hr:dT w0 H (.slice a l.length c) l](hl:l.length<=4294967296):CT prog w0 (H) 91 [.slice a l.length c] (α:=Unit) (fun _=> .agg (cG.mk (cN l).2 (cN l).1).cells) (fun _=>H):=by
 refine al func91 rfl ntmps91 rfl (gG ?_);refine ze rfl (an (fun b2=>gG ?_));refine yC ?_ ?_<;>intro h15 p15
 ·refine gG ?_;refine aaD ?_;refine aag ?_;have e:cN l=(1,.zero):=by unfold cN;exact if_pos om
  rw[e];exact abo
 have h4:4<=l.length:=om;refine gG ?_;refine zq (bI (aA [] rfl kr) (show _=Value.agg (cG.mk aj.zero 0).cells from rfl)) rfl ?_;refine ze rfl (an (fun b3=>?_));refine aag ?_;refine ze rfl (zc (jB (k:=0) om hl (n:=2)) rfl (fun x19=>?_));rw[XI];have hf1:=fB l;refine ZT ?_;refine aax ?_;refine ze rfl (zc (jB (k:=2) om hl (n:=2)) rfl (fun x25=>?_));have hf2:=fB (l.drop 2);refine ZT ?_;refine aax ?_;refine bH [4,5,6,7,8,9,10,11,12,30,31,32,33,34,35,36,37,38,39,40,41,42,43,44,45,46,47,48,49,50,51,52,53,54,55,56,57,58,59,60,61,62,63,64,65,66,67,68,69,70,71,72,73,74,75,76,77,78,79,80,81,82,83,84,85,86,87,88,89,90,91] [5,4] (fun us H'=>∃(i:Nat),us=[.int .i64 (i:Int),.int .i64 (((ed l i).q:Nat):Int)]/\aF b3 (.cells (cG.mk (ed l i).w 0).cells 177 (0,0))::aF b2 (.cells (cG.mk aj.zero 0).cells 177 (0,0))::H=H'/\i<=9/\((ed l i).e=0)) (fun us=>match us with| .int _ i::_=>9-i.toNat|_=>0) ⟨0,by rw[Ab];rfl,rfl,om,DB l⟩ (fun w hw=>by
  rw[M1];exact SB w hw) ?_
 rintro τ0 _ _ ⟨i,rfl,rfl,hi0,hek⟩ _;refine gG ?_;refine yC ?_ ?_<;>intro h31 p31
 ·have hi9:i<9:=om;have hqk:=vD h4 i;refine gG ?_;refine ze rfl (zc (mB (k:=(ed l i).q) (m:=1000) hqk hl dc dc) rfl (fun x36=>?_));have htb:=(eM (l.drop (ed l i).q) 1000);rw[Xe]at htb;refine ze rfl (an (fun b6=>?_));refine aag ?_;refine yC ?_ ?_<;>intro h39 p39
  ·have hfin:=kQ (l:=l) (i:=i+1) om h4 (by rw[hO,lR hek ah1];simpa using h39);rw[hO,lR hek ah1]at hfin;dsimp only at hfin;refine gG ?_;refine aaD ?_;refine aag ?_;refine Zd ?_;rw[hfin];exact abo
  have hx:(au (l.drop (ed l i).q) 1000).1=0:=ah1;refine aep ?_
  first|refine yP rfl rfl ?_|refine zq (bU rfl rfl) rfl ?_
  rw[show(((ed l i).q:Nat):Int)+(((au (l.drop (ed l i).q) 1000).2.2:Nat):Int)=(((ed l i).q+(au (l.drop (ed l i).q) 1000).2.2:Nat):Int)from by omega];refine gG ?_;refine yC ?_ ?_<;>intro h48 p48<;>refine gG ?_
  ·refine ze rfl (zc (B8 (a:=x36.a) (l:=(au (l.drop (ed l i).q) 1000).2.1) (c:=x36.c) om) rfl (fun x52=>gG ?_));refine ze rfl (an (fun b8=>?_));refine aag ?_;refine yC ?_ ?_<;>intro h57 p57
   ·have hok:=hO l i;rw[HY om hek hx]at hok;refine gG ?_;refine aag ?_;refine yC ?_ ?_<;>intro h89 p89
    ·have hfin:=kQ (l:=l) (i:=i+1) om h4 ac8;rw[hok]at hfin;dsimp only at hfin;refine gG ?_;refine aaD ?_;refine aag ?_;refine Zd ?_;rw[hfin];exact abo
    have hek1:(ed l (i+1)).e=0:=ac8;have hpk:(ed l (i+1)).q=(ed l i).q+(au (l.drop (ed l i).q) 1000).2.2:=by rw[hok]
    rw[←hpk];have hwk:=congrArg CI.w hok;dsimp only at hwk;refine gA ?_;apply bW
    case ha=>exact aff
    case hI=>exact aeL
    case hm=>exact ade
    case hH=>exact(fun w hw=>by
                  rw[show(ed l (i+1)).w=_ from hwk];exact SB w hw)
   have hok:=hO l i;rw[Kd om hek hx]at hok;refine gG ?_;refine aag ?_;refine yC ?_ ?_<;>intro h89 p89
   ·have hfin:=kQ (l:=l) (i:=i+1) om h4 ac8;rw[hok]at hfin;dsimp only at hfin;refine gG ?_;refine aaD ?_;refine aag ?_;refine Zd ?_;rw[hfin];exact abo
   have hek1:(ed l (i+1)).e=0:=ac8;have hpk:(ed l (i+1)).q=(ed l i).q+(au (l.drop (ed l i).q) 1000).2.2:=by rw[hok]
   rw[←hpk];have hwk:=congrArg CI.w hok;dsimp only at hwk;refine gA ?_;apply bW
   case ha=>exact aff
   case hI=>exact aeL
   case hm=>exact ade
   case hH=>exact(fun w hw=>by
                 rw[show(ed l (i+1)).w=_ from hwk];exact SB w hw)
  refine yC ?_ ?_<;>intro h65 p65
  ·have hok:=hO l i;rw[IP om hek hx]at hok;refine gG ?_;refine ze rfl (zc (Ji (a:=x36.a) (l:=(au (l.drop (ed l i).q) 1000).2.1) (c:=x36.c) om) rfl (fun x68=>?_));refine ze rfl (an (fun b10=>?_));refine aag ?_;refine zq (zf 32 rfl rfl) rfl ?_;refine gG ?_;refine aag ?_;refine yC ?_ ?_<;>intro h89 p89
   ·have hfin:=kQ (l:=l) (i:=i+1) om h4 ac8;rw[hok]at hfin;dsimp only at hfin;refine gG ?_;refine aaD ?_;refine aag ?_;refine Zd ?_;rw[hfin];exact abo
   have hek1:(ed l (i+1)).e=0:=ac8;have hpk:(ed l (i+1)).q=(ed l i).q+(au (l.drop (ed l i).q) 1000).2.2:=by rw[hok]
   rw[←hpk];have hwk:=congrArg CI.w hok;dsimp only at hwk;refine gA ?_;apply bW
   case ha=>exact aff
   case hI=>exact aeL
   case hm=>exact ade
   case hH=>exact(fun w hw=>by
                 rw[show(ed l (i+1)).w=_ from hwk];exact SB w hw)
  have hok:=hO l i;rw[I7 om hi9 hek hx]at hok;have hput:=GQ (cG.mk (ed l i).w 0) (i-3) om (cR (au (l.drop (ed l i).q) 1000).2.1).2;refine gG ?_;refine ze rfl (zc (Cj (a:=x36.a) (l:=(au (l.drop (ed l i).q) 1000).2.1) (c:=x36.c) om) rfl (fun x78=>gG ?_));refine ze rfl (an (fun b11=>?_));refine aa1 ?_;refine zq (za (.int .i64 _) rfl) rfl (zz (zx (zS (zR (zq (zm (.int .i64 _) rfl) rfl (zq (za (.int .i64 _) rfl) rfl (zz ?_)))))));refine zx (zR (zq (zm (.int .i64 _) rfl) rfl ?_))
  first|refine yU rfl rfl ?_|refine zq (iq rfl rfl) rfl ?_
  rw[show(i:Int)-3=((i-3:Nat):Int)from by omega];refine gG ?_;refine zq (zf 38 rfl rfl) rfl (zq (aQ (sz:=5) (38+(i-3)*5) (i-3) rfl rfl underlying42 rfl rfl (by rw[XO];omega) rfl) rfl ?_);refine aag ?_;refine yC ?_ ?_<;>intro h89 p89
  ·have hfin:=kQ (l:=l) (i:=i+1) om h4 ac8;rw[hok]at hfin;dsimp only at hfin;refine gG ?_;refine aaD ?_;refine aag ?_;refine Zd ?_;rw[hfin];exact abo
  have hek1:(ed l (i+1)).e=0:=ac8;have hpk:(ed l (i+1)).q=(ed l i).q+(au (l.drop (ed l i).q) 1000).2.2:=by rw[hok]
  rw[←hpk];have hwk:=congrArg CI.w hok;dsimp only at hwk;refine gA ?_;apply bW
  case ha=>exact aff
  case hI=>exact aeL
  case hm=>exact ade
  case hH=>exact(fun w hw=>by
                rw[show(ed l (i+1)).w=_ from hwk];exact SB w hw)
 obtain rfl:i=9:=om;have hq9:=vD h4 9;refine gG ?_;refine Za ?_;refine yC ?_ ?_<;>intro h95 p95<;>refine gG ?_
 ·refine aaD ?_;refine aag ?_;have e:cN l=(2,.zero):=by unfold cN;rw[if_neg om,if_neg (by rw[hek];decide),if_pos om]
  rw[e];exact abo
 refine aag ?_;have e:cN l=(0,(ed l 9).w):=by unfold cN;rw[if_neg om,if_neg (by rw[hek];decide),if_neg om]
 rw[e];exact abo
end
section
def nq:List (List UInt8)->Nat
 |[]=>0
 |x::l=>x.length+nq l
theorem FB:∀(l m:List (List UInt8)),nq (l++m)=nq l+nq m
 |[],m=>by simp[nq]
 |x::l,m=>by simp only[XG,nq,FB l m];omega
variable {w0:World} {H:List SA} {W:aj}
theorem CH{ls:List BS}{k:Nat}(hk:k<ls.length):nq ((ls.map BS.l).take (k+1))=nq ((ls.map BS.l).take k)+ls[k].l.length:=by
 rw[fR _ _ abf,FB];simp[nq]
theorem AN:∀(ls:List BS)(M:Nat),(∀x∈ls,x.l.length<=M)->nq (ls.map BS.l)<=ls.length*M
 |[],_,_=>by simp[nq]
 |x::l,M,h=>by
   have h1:=h x sm;have h2:=AN l M (fun y hy=>h y (by simp[hy]));simp only[Xt,nq,Xq,Nat.succ_mul];omega
theorem Bi(ls:List BS)(M k:Nat)(h:∀x∈ls,x.l.length<=M):nq ((ls.map BS.l).take k)<=ls.length*M:=by
 rw[←List.map_take];refine Yk (AN _ M (fun x hx=>h x (Yd hx))) ?_;exact Xp _ ae5
def dJ(behind:Int)(x:iB):Bool:=
 decide (IntKind.i64.wrap (x.n-1)=behind/\x.n<=60/\x.parts.length<=16/\nq x.parts+x.batch.length<=30000)&&(decide ((bN x.batch).1=0)&&decide (fH x.batch=x.hash))
theorem kf{b:Int}{x:iB}(h:¬(IntKind.i64.wrap (x.n-1)=b/\x.n<=60/\x.parts.length<=16/\nq x.parts+x.batch.length<=30000)):dJ b x=false:=by
 unfold dJ;rw[decide_eq_false h];rfl
theorem oo{b:Int}{x:iB}(h:IntKind.i64.wrap (x.n-1)=b/\x.n<=60/\x.parts.length<=16/\nq x.parts+x.batch.length<=30000):dJ b x=(decide ((bN x.batch).1=0)&&decide (fH x.batch=x.hash)):=by
 unfold dJ;rw[decide_eq_true h];rfl
def wB(w:aj):List UInt8:=dS w.slot w.first w.view.num w.view.mask.toNat w.fM.num w.fM.mask.toNat w.cs w.last
attribute [local irreducible] fH dS bN
theorem Ib{a:Option Addr}{c:Nat}{ls:List BS}[rc:gy w0 H (.slice a ls.length c) 1 (ls.map BS.val)][rce:ju w0 H ls](hn:ls.length<=1000)(hl:∀x∈ls,x.l.length<=140737488351232):CT prog w0 (H) 137 [.slice a ls.length c] (α:=Unit) (fun _=> .int .i64 ((nq (ls.map BS.l):Nat):Int)) (fun _=>H):=by
 refine al func137 rfl ntmps137 rfl (gG ?_);refine bH [3,5,8,9,10,11,12,13,14,15,16] [8,3] (fun us H'=>∃(k:Nat),us=[.int .i64 (k:Int),.int .i64 ((nq ((ls.map BS.l).take k):Nat):Int)]/\H=H'/\k<=ls.length) (fun us=>match us with| .int _ i::_=>ls.length-i.toNat|_=>0) ⟨0,rfl,rfl,om⟩ SB ?_;rintro τ0 _ _ ⟨k,rfl,rfl,hk0⟩ _;refine gG ?_;refine yC ?_ ?_<;>intro h9 p9
 ·have hk:k<ls.length:=om;have hb:=Bi ls 140737488351232 k hl;have hb2:=Xp 140737488351232 hn;have hb3:=hl _ (W1 hk);refine gG ?_;refine ZK ?_;refine zq (bI (gh rfl rfl om om) (congrArg (Value.int .i64) (show((nq ((ls.map BS.l).take k):Nat):Int)+(ls[k].l.length:Int)=((nq ((ls.map BS.l).take (k+1)):Nat):Int)from by rw[CH hk];omega))) rfl ?_;refine gA ?_;exact acI
 obtain rfl:k=ls.length:=om;rw[W7 sm];refine gG ?_;refine Za ?_;exact zX () [_] results137 ⟨rfl,trivial⟩ rfl SB
theorem u4{behind:Int}{n:Int}{h:Vector UInt8 32}{b:BS}{p:PS}[rb:dT w0 H (.slice b.a b.l.length b.c) b.l][rp:gy w0 H (.slice p.a p.ls.length p.c) 1 (p.ls.map BS.val)][re:ju w0 H p.ls](hb:b.l.length<=4294960000)(hp:p.ls.length<=1000)(he:∀x∈p.ls,x.l.length<=140737488351232):CT prog w0 (H) 75 [.int .i64 behind,.agg (ah.mk n h b p).cells] (α:=Unit) (fun _=> .bool (dJ behind (ah.abs (ah.mk n h b p)))) (fun _=>H):=by
 refine al func75 rfl ntmps75 rfl (gG ?_);refine ze rfl (aZ rfl (fun b3=>gG ?_));refine dw (aF b3 (.cells (ah.mk n h b p).cells 50 (0,0))::H) [(0,true),(1,true),(2,true),(3,true),(4,true),(5,true),(6,true),(7,true),(8,true),(9,true),(10,true),(11,true),(12,true),(13,true),(14,true),(15,true),(16,true),(17,true),(18,true),(20,true),(21,true),(22,true),(19,false),(23,true),(24,true),(25,true)] (fun hns0=>?_);refine Z6 ?_;refine yD 12 ?_ ?_<;>intro h12 p12
 ·refine gA ?_;refine Zc ?_;have e:dJ behind (ah.abs (ah.mk n h b p))=_:=kf aaJ;rw[e];exact acs
 refine Z7 ?_;refine yD 17 ?_ ?_<;>intro h17 p17
 ·refine gA ?_;refine Zc ?_;have e:dJ behind (ah.abs (ah.mk n h b p))=_:=kf aaJ;rw[e];exact acs
 refine ag5 ?_;refine ahU ?_;refine Z8 ?_;refine yD 23 ?_ ?_<;>intro h23 p23
 ·refine gA ?_;refine Zc ?_;have e:dJ behind (ah.abs (ah.mk n h b p))=_:=kf aaJ;rw[e];exact acs
 have hz1:=AN p.ls 140737488351232 he;have hz2:=Xp 140737488351232 hp;refine ag6 ?_;refine adC ?_;refine ag7 ?_;refine adC ?_;refine agB ?_;refine lF rfl rfl rfl h23 rfl (zc (Ib hp he) rfl (fun x26=>⟨SB,?_⟩))
 first|refine bB hns0 rfl rfl rfl h23 (gh rfl rfl om om) rfl ?_|refine bB hns0 rfl rfl rfl h23 (bU rfl rfl) rfl ?_
 refine gA ?_;refine yC ?_ ?_<;>intro h32 p32<;>refine gG ?_
 ·have e:dJ behind (ah.abs (ah.mk n h b p))=_:=kf aaJ;rw[e];exact acs
 refine ZF ?_;refine ze rfl (zc (vW (l:=b.l) om) rfl (fun x36=>?_));refine aV (fun h36=>?_);refine gG ?_;refine dw (aF b3 (.cells (ah.mk n h b p).cells 50 (0,0))::H) [(0,true),(1,true),(2,true),(3,true),(4,true),(6,true),(7,true),(5,false),(8,true),(9,true),(10,true)] (fun hns1=>?_);refine gA ?_;refine yD 41 ?_ ?_<;>intro h41 p41
 ·refine ag8 ?_;refine ahV ?_;refine Z9 ?_;refine lF rfl rfl rfl h41 rfl (zc (CP (l:=b.l) om) rfl (fun x44=>⟨SB,?_⟩));refine aaa ?_;have e:dJ behind (ah.abs (ah.mk n h b p))=_:=oo abG;rw[e];exact adL
 refine gA ?_;have e:dJ behind (ah.abs (ah.mk n h b p))=_:=oo abG;rw[e];exact adL
theorem sM(hg:ja W):CT prog w0 H 55 [.agg W.cells] (α:=Unit) (fun _=> .agg (aX (fH (wB W))).toArray) (fun _=>H):=by
 obtain⟨s,f,⟨n1,m1⟩,⟨n2,m2⟩,cs,rs⟩:=W;obtain⟨⟨k1,h1,e1⟩,⟨k2,h2,e2⟩,h3,h4⟩:=hg;simp only at e1 e2;subst e1;subst e2;exact B6 h1 h2 h3 h4
theorem Ds(hg:ja W):CT prog w0 H 43 [.agg W.cells] (α:=Unit) (fun _=> .agg (aX (fH (wB W))).toArray) (fun _=>H):=by
 obtain⟨s,f,⟨n1,m1⟩,⟨n2,m2⟩,cs,rs⟩:=W;obtain⟨⟨k1,h1,e1⟩,⟨k2,h2,e2⟩,h3,h4⟩:=hg;simp only at e1 e2;subst e1;subst e2;exact Gd h1 h2 h3 h4
theorem rj(hg:ja W){n:Int}{h:Vector UInt8 32}{b:BS}{p:PS}[rb:dT w0 H (.slice b.a b.l.length b.c) b.l][rp:gy w0 H (.slice p.a p.ls.length p.c) 1 (p.ls.map BS.val)][re:ju w0 H p.ls](hb:b.l.length<=4294967296)(hp:p.ls.length<=100000)(he:∀x∈p.ls,x.l.length<=4294967296):CT prog w0 (H) 22 [.agg W.cells,.agg (ah.mk n h b p).cells] (α:=(ah×List Nat)×AC) (fun y=> .agg (aM.mk W y.1.1 ⟨none,0,0⟩ ⟨y.2.a,1,y.2.c⟩ W.slot).cells) (fun y=>pu (y.1.1.abs=ah.abs (ah.mk n h b p))::dX y.1.2 (Deep.leads y.1.1)::row (.slice y.2.a 1 y.2.c) 46 32 (aX (fH (wB W)))::H):=by
 obtain⟨hv,hhv⟩:∃hv,hv=fH (wB W):=⟨_,rfl⟩;refine aiz ?_;refine ze rfl (aZ rfl (fun b2=>?_));refine ze rfl (aZ rfl (fun b3=>?_));refine ze rfl (an (fun b4=>?_));refine zz (zx (kT [5,6,7,8,9,10,11,12,13] [] (fun us H'=>∃(u:ah)(fp:List Nat)(da:Option Addr)(dc:Nat),us=[]/\(aF b4 (.cells (aM.mk W u ⟨none,0,0⟩ ⟨da,1,dc⟩ W.slot).cells 87 (0,0))::dX fp (Deep.leads u)::row (.slice da 1 dc) 46 32 (aX (hv))::H)=H'/\u.abs=ah.abs (ah.mk n h b p)) ?_ ?_))
 ·refine jC (aF b2 (.cells W.cells 44 (0,0))::aF b3 (.cells (ah.mk n h b p).cells 50 (0,0))::H) kr SB (bz (i:=0) kr rfl kr kr (zn rfl rfl) rfl (bz (i:=1) kr rfl kr kr (zn rfl rfl) rfl (bz (i:=3) kr rfl kr kr (zn rfl rfl) rfl (bz (i:=6) kr rfl kr kr (zf 0 rfl rfl) rfl (bz (i:=7) kr rfl kr kr (zl rfl) rfl ?_)))));refine ah4 ?_;refine cq rfl rfl (zc (zu hb hp he) rfl (fun x7=>⟨SB,?_⟩));refine gH (fun h7=>?_);refine acZ ?_;refine cq rfl rfl (zc (sM hg) rfl (fun x9=>⟨SB,?_⟩));rw[←hhv];refine ad9 ?_;refine cq rfl rfl (cr (m:=1) [.agg (aX hv).toArray] (aX hv) rfl rfl rfl abY abY rfl rfl (fun a10 c10=>⟨SB,?_⟩));refine bz (i:=8) kr rfl kr kr (aA [(0,(.agg _)),(1,(.agg _)),(3,.slice _ _ _),(4,(.int .i64 _))] rfl kr) rfl ?_;refine adl ?_;refine aa7 ?_;refine eH kr ?_;refine dU _ zA (⟨x7.1,x7.2,a10,c10,rfl,rfl,h7⟩) (SB)
 rintro τc0 _ _ ⟨u,fp,da,dc,-,rfl,hu⟩ _;refine gG ?_;rw[hhv];exact zX ((u,fp),⟨da,dc⟩) [_] results22 ⟨⟨_,rfl,ak rfl⟩,trivial⟩ rfl (fun w hw=>(SB w hw:St w0 (dX fp (Deep.leads u)::row (.slice da 1 dc) 46 32 (aX (fH (wB W)))::H) w).aC hu)
end
section
theorem Kv{cs:Vector ax 16}{kd ky a b:Int}(hc:∀(i:Nat)(hi:i<16),db cs[i].n)(ha:db a)(hb:db b):(∀(i:Nat)(hi:i<16),db (tK cs kd ky a b).1[i].n)/\db (tK cs kd ky a b).2.n:=by
 have hw:∀x,db (IntKind.i64.wrap x):=fun x=>by simp only[db,IntKind.wrap,IntKind.bits,IntKind.signed];simp;split<;>omega
 have one:∀th n,db n->db (jh th n kd a b).1.n/\db (jh th n kd a b).2.n:=fun th n hn=>by
   unfold jh
   repeat' split
   all_goals first|exact⟨hn,hn⟩|exact⟨ha,hn⟩|exact⟨hw _,hw _⟩|exact⟨hb,hb⟩|exact⟨gF,hn⟩|exact⟨hn,gF⟩
 have xn:∀th n,db n->db (tg th n):=fun th n hn=>by unfold tg;split;exact hn;exact gF
 by_cases h:0<=ky/\ky<16/\1<=kd/\kd<=5
 · obtain⟨k,rfl⟩:∃k:Nat,ky=(k:Int):=⟨ky.toNat,om⟩
   have hk:k<16:=om;rw[oL hk h.2.2.1 h.2.2.2];have h1:=one cs[k].there (tg cs[k].there cs[k].n) (xn _ _ (hc k hk))
   split
   · refine⟨fun i hi=>?_,h1.2⟩
     show db ((cs.set k _ hk)[i]).n;rw[Yl];split
     · exact h1.1
     · exact hc i hi
   · exact⟨hc,h1.2⟩
 · rw[k6 h];exact⟨hc,gF⟩
theorem Dq{num:Int}{mk:Nat}{a:Int}:∃m:Nat,m<65536/\(iC num mk a).1.mask=(m:Int):=by
 unfold iC
 repeat' split
 · exact⟨0,dc,rfl⟩
 · exact⟨0,dc,rfl⟩
 · rename_i h _;simp only[not_or]at h;exact⟨a.toNat,om,by show a=_;omega⟩
def qo(r:fD):Prop:=db r.a/\db r.b
structure wb(s:WS):Prop where
 cs:∀(i:Nat)(hi:i<16),db s.cs[i].n
 last:∀(i:Nat)(hi:i<6),db s.last[i].res.n
 nx:∃m:Nat,m<65536/\s.nx.mask=(m:Int)
theorem uQ{view:aH}{s:WS}{r:fD}(h:wb s)(hr:qo r)(hv:db view.num):(∀(i:Nat)(hi:i<16),db (iY view s.cs s.nx r).1[i].n)/\db (iY view s.cs s.nx r).2.2.n/\∃m:Nat,m<65536/\(iY view s.cs s.nx r).2.1.mask=(m:Int):=by
 have hk:=Kv (kd:=r.kind) (ky:=r.key) h.cs hr.1 hr.2;unfold iY
 repeat' split
 · rename_i h2
   refine⟨h.cs,?_,Dq⟩;show db (iC _ _ _).1.num;have h3:=h2.1;unfold iC at h3 ⊢
   split
   · rename_i h4;rw[if_pos h4]at h3;exact absurd h3 dc
   · rename_i h4;rw[if_neg h4]at h3
     split
     · rename_i h5;rw[if_pos h5]at h3;exact absurd h3 dc
     · simp only[not_or,W6]at h4
       have:=kx h4.1;exact⟨by show _<=view.num+1;omega,by show view.num+1<=_;omega⟩
 · exact⟨h.cs,gF,h.nx⟩
 · exact⟨hk.1,hk.2,h.nx⟩
theorem vK{view:aH}{slot:Int}{s:WS}{r:fD}(h:wb s)(hr:qo r)(hv:db view.num):wb (lj view slot s r):=by
 obtain⟨h1,h2,h3⟩:=uQ h hr hv;unfold lj
 split
 · split
   · rename_i hc _
     refine⟨h1,fun i hi=>?_,h3⟩;show db ((s.last.set r.aG.toNat _ om)[i]).res.n;rw[Yl];split
     · exact h2
     · exact h.last i hi
   · exact h
 · exact h
theorem tp{view:aH}{slot:Int}(hv:db view.num):∀(rs:List fD)(s:WS),wb s->(∀r∈rs,qo r)->wb (sH view slot s rs)
 |[],s,h,_=>h
 |r::rs,s,h,hr=>tp hv rs _ (vK h (hr r sm) hv) (fun q hq=>hr q (by simp[hq]))
theorem IM{w:aj}{rs:List fD}(hg:ja w)(hv:db w.view.num)(hr:∀r∈rs,qo r):ja (jt w rs).1:=by
 have h:=tp (slot:=w.slot+1) hv rs ⟨w.cs,w.last,w.view,[]⟩ ⟨hg.cs,hg.last,hg.view⟩ hr;unfold jt;simp only
 split
 · exact⟨hg.view,hg.view,h.cs,h.last⟩
 · exact⟨h.nx,hg.view,h.cs,h.last⟩
theorem wF{w:aj}{rs:List fD}:(jt w rs).1.slot=w.slot+1:=by unfold jt;simp only;split<;>rfl
theorem BR{l:List UInt8}:∀(n q:Nat)(acc:List fD),(∀r∈acc,qo r)->∀r∈(w8 l q n acc).2.1,qo r
 |0,_,_,h=>h
 |n+1,q,acc,h=>by
   unfold w8
   repeat' split
   · exact h
   · exact h
   · refine BR n _ _ (fun r hr=>?_)
     rcases Xc.1 hr with hr|hr
     · exact h r hr
     · rw[Xb.1 hr];exact vJ _
theorem tR{l:List UInt8}:∀r∈(bN l).2,qo r:=by
 intro r hr;unfold bN at hr
 repeat' split at hr
 all_goals first|(cases hr;done)|exact BR _ _ _ (fun _ h=>by cases h) r hr
theorem DX(x:Vector UInt8 32):(aX x).all Value.oneCell'=true:=Hi x
theorem E2{T:Type}[Deep T]{w0 w:World}{H:List SA}{f g:List Nat}{v:T}{l:List T}(h:St w0 (dX f (Deep.leads v)::dX g (dD l)::H) w):St w0 (dX (f++g) (dD (v::l))::H) w:=h.j3
def j0(x:ah):Prop:=x.batch.l.length<=4294960000/\x.parts.ls.length<=100000/\∀z∈x.parts.ls,z.l.length<=4294967296
theorem j0.J9{x y:ah}(h:x.abs=y.abs)(hs:j0 y):j0 x:=by
 have h1:=congrArg iB.batch h;have h2:=congrArg iB.parts h;simp only[ah.abs]at h1 h2;refine⟨by rw[h1];exact hs.1,by have:=congrArg List.length h2;simp at this;rw[this];exact hs.2.1,fun z hz=>?_⟩;have:z.l∈y.parts.ls.map BS.l:=by rw[←h2];exact Xd.2 ⟨z,hz,rfl⟩
 obtain⟨u,hu,he⟩:=Xd.1 this;rw[←he];exact hs.2.2 u hu
structure du where
 w:aj
 last:ah
 sa:Option Addr
 sc:Nat
 aT:List ah
 da:Option Addr
 dc:Nat
 ds:List (Vector UInt8 32)
 saved:Int
 fp:List Nat
 all:List ah
@[reducible] def du.v(y:du):aM:=⟨y.w,y.last,⟨y.sa,y.aT.length,y.sc⟩,⟨y.da,y.ds.length,y.dc⟩,y.saved⟩
@[reducible] def oG(a:Option Addr)(c:Nat)(l:List ah):SA:=row (.slice a l.length c) 50 35 (l.flatMap ah.list)
@[reducible] def Ky(a:Option Addr)(c:Nat)(l:List (Vector UInt8 32)):SA:=row (.slice a l.length c) 46 32 (l.flatMap aX)
abbrev du.H(y:du)(p:Nat)(H:List SA):List SA:=aF p (.cells y.v.cells 87 (0,0))::oG y.sa y.sc y.aT::Ky y.da y.dc y.ds::dX y.fp (dD y.all)::H
structure du.Ok(y:du):Prop where
 ic:ja y.w
 num:db y.w.view.num
 last:y.last∈y.all
 aT:∀x∈y.aT,x∈y.all
 small:∀x∈y.all,j0 x
def Im(y:du)(x:iB)(z:du):Prop:=
 z.w=(jt y.w (bN x.batch).2).1/\z.last.abs=x/\z.aT.map ah.abs=y.aT.map ah.abs++[x]/\z.ds=y.ds++[fH (wB z.w)]/\z.saved=y.saved
theorem K3{w:aj}{rs:List fD}(hv:db w.view.num):db (jt w rs).1.view.num:=by
 have run:∀(rs:List fD)(s:WS),db s.nx.num->db (sH w.view (w.slot+1) s rs).nx.num:=by
   intro rs
   induction rs with
   |nil=>intro s h;exact h
   |cons r rs ih=>
     intro s h;refine ih _ ?_;unfold lj
     repeat' split
     · show db (iY w.view s.cs s.nx r).2.1.num
       unfold iY
       repeat' split
       · rename_i h2
         have h3:=h2.1;show db (iC _ _ _).1.num;unfold iC at h3 ⊢
         split
         · exact gF
         · rename_i h4
           split
           · exact gF
           · simp only[not_or,W6]at h4
             have:=kx h4.1;exact⟨by show _<=w.view.num+1;omega,by show w.view.num+1<=_;omega⟩
       · exact h
       · exact h
     · exact h
     · exact h
 unfold jt;simp only
 split
 · exact hv
 · exact run rs _ hv
theorem DJ{w0:World}{H:List SA}{W:aj}(hg:ja W)(hsl: -4611686018427387904<=W.slot/\W.slot<=4611686018427387904){a:Option Addr}{c:Nat}{ls:List aJ}[hr:gy w0 H (.slice a ls.length c) 7 (ls.flatMap aJ.list)](hn:ls.length<=100):CT prog w0 H 139 [.agg W.cells,.slice a ls.length c] (α:=AC) (fun y=> .tuple #[.agg (jt W (ls.map aJ.abs)).1.cells,.slice y.a (jt W (ls.map aJ.abs)).2.length y.c]) (fun y=>row (.slice y.a (jt W (ls.map aJ.abs)).2.length y.c) 41 5 ((jt W (ls.map aJ.abs)).2.flatMap ar.list)::H):=by
 obtain⟨s,f,⟨n1,m1⟩,v2,cs,rs⟩:=W;obtain⟨⟨k1,h1,e1⟩,-,-,-⟩:=hg;simp only at e1;subst e1;exact Gg h1 hsl hn
attribute [local irreducible] fH dS bN jt wB
theorem MM{w0:World}{H:List SA}{sp:Nat}{y:du}(hy:y.Ok)(hsl:0<=y.w.slot/\y.w.slot<=100000)(hls:y.aT.length<=1000)(hld:y.ds.length<=1000){n:Int}{h:Vector UInt8 32}{b:BS}{p:PS}[rb:dT w0 H (.slice b.a b.l.length b.c) b.l][rp:gy w0 H (.slice p.a p.ls.length p.c) 1 (p.ls.map BS.val)][re:ju w0 H p.ls](hb:b.l.length<=4294960000)(hp:p.ls.length<=100000)(he:∀x∈p.ls,x.l.length<=4294967296):CT prog w0 (du.H y sp H) 76 [.pointer (some ⟨sp,0,none⟩),.agg (ah.mk n h b p).cells] (α:=du×AC) (fun z=> .slice z.2.a (jt y.w (bN b.l).2).2.length z.2.c) (fun z=>pu (z.1.Ok/\Im y (ah.abs (ah.mk n h b p)) z.1)::row (.slice z.2.a (jt y.w (bN b.l).2).2.length z.2.c) 41 5 ((jt y.w (bN b.l).2).2.flatMap ar.list)::du.H z.1 sp H):=by
 refine al func76 rfl ntmps76 rfl (gG ?_);refine ze rfl (aZ rfl (fun b3=>gG ?_));refine ZF ?_;refine ze rfl (zc (vW (l:=b.l) om) rfl (fun x12=>?_));refine aV (fun h12=>?_);refine gG ?_;refine ze rfl (zc (DJ hy.ic ⟨om,om⟩ (ls:=x12.1.2) om) rfl (fun x21=>?_));rw[h12.1];obtain⟨W2,hW2⟩:∃W2,W2=(jt y.w (bN b.l).2).1:=⟨_,rfl⟩;obtain⟨L2,hL2⟩:∃L2,L2=(jt y.w (bN b.l).2).2:=⟨_,rfl⟩;rw[←hW2,←hL2];have hg2:ja W2:=by rw[hW2];exact IM hy.ic hy.num tR
 refine gG ?_;refine ze rfl (an (fun b7=>?_));refine aa1 ?_;refine zq (za (.slice _ _ _) rfl) rfl (zz (zx (kT [24,25,26,27,28,29,30,31,32] [] (fun us H'=>∃(u:ah)(fu:List Nat),us=[]/\(aF sp (.cells (aM.mk W2 u ⟨y.sa,y.aT.length,y.sc⟩ ⟨y.da,y.ds.length,y.dc⟩ y.saved:aM).cells 87 (0,0))::oG y.sa y.sc y.aT::Ky y.da y.dc y.ds::aF b3 (.cells (ah.mk n h b p).cells 50 (0,0))::aF b7 (.cells W2.cells 44 (0,0))::row (.slice x21.a L2.length x21.c) 41 5 (L2.flatMap ar.list)::dX fu (Deep.leads u)::dX y.fp (dD y.all)::H)=H'/\u.abs=ah.abs (ah.mk n h b p)) ?_ ?_)))
 ·refine jC (aF b3 (.cells (ah.mk n h b p).cells 50 (0,0))::aF b7 (.cells W2.cells 44 (0,0))::H) kr SB (bz (i:=0) kr rfl kr kr (zm (.pointer _) rfl) rfl (bz (i:=1) kr rfl kr kr (zm (.pointer _) rfl) rfl (bz (i:=2) kr rfl kr kr (zn rfl rfl) rfl (bz (i:=3) kr rfl kr kr (zn rfl rfl) rfl ?_))));refine acZ ?_;refine cq rfl rfl (zc (zu om hp he) rfl (fun x28=>⟨SB,?_⟩));refine gH (fun h28=>?_);refine bz (i:=5) kr rfl kr kr (aN rfl) rfl (bz (i:=6) kr rfl kr kr (zf 0 rfl rfl) rfl ?_);refine ab2 ?_;refine aa7 ?_;refine bz (i:=8) kr rfl kr kr (aN rfl) rfl (bz (i:=9) kr rfl kr kr (zf 68 rfl rfl) rfl ?_);refine adZ ?_;refine aa7 ?_;refine eH kr ?_;refine dU _ zA (⟨x28.1,x28.2,rfl,rfl,h28⟩) (SB)
 rintro τc0 _ _ ⟨u,fu,-,rfl,hu⟩ _;refine kT [33,34,35,36,37,38,39,40,41,42,43] [] (fun us H'=>∃(v:ah)(fv:List Nat)(a1:Option Addr)(c1:Nat),us=[]/\(aF sp (.cells (aM.mk W2 u ⟨a1,(y.aT++[v]).length,c1⟩ ⟨y.da,y.ds.length,y.dc⟩ y.saved:aM).cells 87 (0,0))::oG a1 c1 (y.aT++[v])::Ky y.da y.dc y.ds::aF b3 (.cells (ah.mk n h b p).cells 50 (0,0))::aF b7 (.cells W2.cells 44 (0,0))::row (.slice x21.a L2.length x21.c) 41 5 (L2.flatMap ar.list)::dX fu (Deep.leads u)::dX fv (Deep.leads v)::dX y.fp (dD y.all)::H)=H'/\v.abs=ah.abs (ah.mk n h b p)) ?_ ?_
 ·refine jC (aF b3 (.cells (ah.mk n h b p).cells 50 (0,0))::H) kr SB (bz (i:=0) kr rfl kr kr (zm (.pointer _) rfl) rfl (bz (i:=1) kr rfl kr kr (zm (.pointer _) rfl) rfl (bz (i:=2) kr rfl kr kr (aN rfl) rfl (bz (i:=3) kr rfl kr kr (zf 103 rfl rfl) rfl (bz (i:=5) kr rfl kr kr (zn rfl rfl) rfl ?_)))));refine nn (i:=4) (j:=6) kr ?_ ?_
  ·refine aaG ?_;refine adJ ?_;refine cq rfl rfl (zc (zu om hp he) rfl (fun x39=>⟨SB,?_⟩));refine gH (fun h39=>?_);refine ab2 ?_;refine cq rfl rfl (cr (m:=([x39.1]:List ah).length) [.agg x39.1.cells] (([x39.1]:List ah).flatMap ah.list) rfl rfl rfl rfl aes rfl rfl (fun a40 c40=>⟨SB,?_⟩));refine acx ?_;refine cq rfl rfl (cp ah.list (sv:= .slice _ _ _) (xv:= .slice _ _ _) (xs:=y.aT) (ys:=[x39.1]) ah.ae ah.aS rfl rfl so rfl rfl (fun a41 c41=>⟨SB,?_⟩));refine acU ?_;refine ab4 ?_;refine aaN ?_;refine eH kr ?_;refine dU _ zA (⟨x39.1,x39.2,a41,c41,rfl,rfl,h39⟩) (SB)
  refine cq rfl rfl (zc (zu om hp he) rfl (fun x39=>⟨SB,?_⟩));refine gH (fun h39=>?_);refine nn (i:=4) (j:=7) kr ?_ ?_
  ·refine aaG ?_;refine ab2 ?_;refine cq rfl rfl (cr (m:=([x39.1]:List ah).length) [.agg x39.1.cells] (([x39.1]:List ah).flatMap ah.list) rfl rfl rfl rfl aes rfl rfl (fun a40 c40=>⟨SB,?_⟩));refine acx ?_;refine cq rfl rfl (cp ah.list (sv:= .slice _ _ _) (xv:= .slice _ _ _) (xs:=y.aT) (ys:=[x39.1]) ah.ae ah.aS rfl rfl so rfl rfl (fun a41 c41=>⟨SB,?_⟩));refine acU ?_;refine ab4 ?_;refine aaN ?_;refine eH kr ?_;refine dU _ zA (⟨x39.1,x39.2,a41,c41,rfl,rfl,h39⟩) (SB)
  refine cq rfl rfl (cr (m:=([x39.1]:List ah).length) [.agg x39.1.cells] (([x39.1]:List ah).flatMap ah.list) rfl rfl rfl rfl aes rfl rfl (fun a40 c40=>⟨SB,?_⟩));refine acZ ?_;refine aaG ?_;refine acx ?_;refine cq rfl rfl (cp ah.list (sv:= .slice _ _ _) (xv:= .slice _ _ _) (xs:=y.aT) (ys:=[x39.1]) ah.ae ah.aS rfl rfl so rfl rfl (fun a41 c41=>⟨SB,?_⟩));refine acU ?_;refine ab4 ?_;refine aaN ?_;refine eH kr ?_;refine dU _ zA (⟨x39.1,x39.2,a41,c41,rfl,rfl,h39⟩) (SB)
 rintro τc1 _ _ ⟨v,fv,a1,c1,-,rfl,hv0⟩ _;obtain⟨hv,hhv⟩:∃hv,hv=fH (wB W2):=⟨_,rfl⟩;refine kT [44,45,46,47,48,49,50,51,52,53,54] [] (fun us H'=>∃(a2:Option Addr)(c2:Nat),us=[]/\(aF sp (.cells (aM.mk W2 u ⟨a1,(y.aT++[v]).length,c1⟩ ⟨a2,(y.ds++[hv]).length,c2⟩ y.saved:aM).cells 87 (0,0))::oG a1 c1 (y.aT++[v])::Ky a2 c2 (y.ds++[hv])::row (.slice x21.a L2.length x21.c) 41 5 (L2.flatMap ar.list)::dX fu (Deep.leads u)::dX fv (Deep.leads v)::dX y.fp (dD y.all)::H)=H') ?_ ?_
 ·refine jC (aF b7 (.cells W2.cells 44 (0,0))::H) kr SB (bz (i:=0) kr rfl kr kr (zm (.pointer _) rfl) rfl (bz (i:=1) kr rfl kr kr (zm (.pointer _) rfl) rfl (bz (i:=2) kr rfl kr kr (aN rfl) rfl (bz (i:=3) kr rfl kr kr (zf 104 rfl rfl) rfl (bz (i:=5) kr rfl kr kr (zn rfl rfl) rfl ?_)))));refine nn (i:=4) (j:=6) kr ?_ ?_
  ·refine aaG ?_;refine adJ ?_;refine cq rfl rfl (zc (sM hg2) rfl (fun x50=>⟨SB,?_⟩));rw[←hhv];refine ab2 ?_;refine cq rfl rfl (cr (m:=([hv]:List (Vector UInt8 32)).length) [.agg (aX hv).toArray] (([hv]:List (Vector UInt8 32)).flatMap aX) rfl rfl rfl abY abY rfl rfl (fun a51 c51=>⟨SB,?_⟩));refine acx ?_;refine cq rfl rfl (cp (aX (n:=32)) (sv:= .slice _ _ _) (xv:= .slice _ _ _) (xs:=y.ds) (ys:=[hv]) (fun x=>aB x) DX rfl rfl so rfl rfl (fun a52 c52=>⟨SB,?_⟩));refine acV ?_;refine ab4 ?_;refine aaN ?_;refine eH kr ?_;refine dU _ zA (⟨a52,c52,rfl,rfl⟩) (SB)
  refine cq rfl rfl (zc (sM hg2) rfl (fun x50=>⟨SB,?_⟩));rw[←hhv];refine nn (i:=4) (j:=7) kr ?_ ?_
  ·refine aaG ?_;refine ab2 ?_;refine cq rfl rfl (cr (m:=([hv]:List (Vector UInt8 32)).length) [.agg (aX hv).toArray] (([hv]:List (Vector UInt8 32)).flatMap aX) rfl rfl rfl abY abY rfl rfl (fun a51 c51=>⟨SB,?_⟩));refine acx ?_;refine cq rfl rfl (cp (aX (n:=32)) (sv:= .slice _ _ _) (xv:= .slice _ _ _) (xs:=y.ds) (ys:=[hv]) (fun x=>aB x) DX rfl rfl so rfl rfl (fun a52 c52=>⟨SB,?_⟩));refine acV ?_;refine ab4 ?_;refine aaN ?_;refine eH kr ?_;refine dU _ zA (⟨a52,c52,rfl,rfl⟩) (SB)
  refine cq rfl rfl (cr (m:=([hv]:List (Vector UInt8 32)).length) [.agg (aX hv).toArray] (([hv]:List (Vector UInt8 32)).flatMap aX) rfl rfl rfl abY abY rfl rfl (fun a51 c51=>⟨SB,?_⟩));refine acZ ?_;refine aaG ?_;refine acx ?_;refine cq rfl rfl (cp (aX (n:=32)) (sv:= .slice _ _ _) (xv:= .slice _ _ _) (xs:=y.ds) (ys:=[hv]) (fun x=>aB x) DX rfl rfl so rfl rfl (fun a52 c52=>⟨SB,?_⟩));refine acV ?_;refine ab4 ?_;refine aaN ?_;refine eH kr ?_;refine dU _ zA (⟨a52,c52,rfl,rfl⟩) (SB)
 rintro τc2 _ _ ⟨a2,c2,-,rfl⟩ _;refine gG ?_;have hsm:j0 (ah.mk n h b p):=⟨hb,hp,he⟩;have hok:(⟨W2,u,a1,c1,y.aT++[v],a2,c2,y.ds++[hv],y.saved,fu++(fv++y.fp),u::v::y.all⟩:du).Ok:=⟨hg2,by rw[show(du.mk W2 u a1 c1 (y.aT++[v]) a2 c2 (y.ds++[hv]) y.saved (fu++(fv++y.fp)) (u::v::y.all)).w=W2 from rfl,hW2];exact K3 hy.num,XF,fun x hx=>by
  rcases Xc.1 hx with h|h
  · exact Xa _ (Xa _ (hy.aT x h))
  · rw[Xb.1 h];exact Xa _ XF,fun x hx=>by
  rcases Xg.1 hx with rfl|hx
  · exact hsm.J9 hu
  rcases Xg.1 hx with rfl|hx
  · exact hsm.J9 hv0
  · exact hy.small x hx⟩
 exact zX ((⟨W2,u,a1,c1,y.aT++[v],a2,c2,y.ds++[hv],y.saved,fu++(fv++y.fp),u::v::y.all⟩:du),⟨x21.a,x21.c⟩) [_] results76 ⟨rfl,trivial⟩ rfl (fun w hw=>by
  have h1:St w0 (dX fv (Deep.leads v)::dX y.fp (dD y.all)::dX fu (Deep.leads u)::row (.slice x21.a L2.length x21.c) 41 5 (L2.flatMap ar.list)::aF sp (.cells (aM.mk W2 u ⟨a1,(y.aT++[v]).length,c1⟩ ⟨a2,(y.ds++[hv]).length,c2⟩ y.saved:aM).cells 87 (0,0))::oG a1 c1 (y.aT++[v])::Ky a2 c2 (y.ds++[hv])::H) w:=SB w hw;have h2:=E2 h1;have h3:St w0 (dX fu (Deep.leads u)::dX (fv++y.fp) (dD (v::y.all))::row (.slice x21.a L2.length x21.c) 41 5 (L2.flatMap ar.list)::aF sp (.cells (aM.mk W2 u ⟨a1,(y.aT++[v]).length,c1⟩ ⟨a2,(y.ds++[hv]).length,c2⟩ y.saved:aM).cells 87 (0,0))::oG a1 c1 (y.aT++[v])::Ky a2 c2 (y.ds++[hv])::H) w:=cJ.st inferInstance w h2;have h4:=E2 h3;exact(cJ.st inferInstance w h4:St w0 (row (.slice x21.a L2.length x21.c) 41 5 (L2.flatMap ar.list)::aF sp (.cells (aM.mk W2 u ⟨a1,(y.aT++[v]).length,c1⟩ ⟨a2,(y.ds++[hv]).length,c2⟩ y.saved:aM).cells 87 (0,0))::oG a1 c1 (y.aT++[v])::Ky a2 c2 (y.ds++[hv])::dX (fu++(fv++y.fp)) (dD (u::v::y.all))::H) w).aC ⟨hok,hW2,hu,by rw[Xi,List.map_singleton,hv0],by rw[hhv],rfl⟩)
end
section
def ox(h:Vector UInt8 32)(ps:List (List UInt8)):List UInt8:=h.toList++(packed ps.length++texts ps)
def eV(x:iB):List UInt8:=fixed (IntKind.u64.wrap x.n).toNat 2++(aY x.batch++ox x.hash x.parts)
variable {h:Vector UInt8 32} {w0:World} {H:List SA} {b:BS}
theorem DT(ls:List BS){k:Nat}(hk:k<ls.length):texts ((ls.map BS.l).take (k+1))=texts ((ls.map BS.l).take k)++aY ls[k].l:=by
 rw[fR _ _ abf,qM];simp
theorem iu(l:List UInt8)(h:l.length<=65536):(aY l).length<=l.length+10:=by
 have:=bw l.length om;simp only[aY,WX];omega
theorem vz{ls:List BS}(hn:ls.length<=16)(he:∀x∈ls,x.l.length<=65536)(k:Nat):(texts ((ls.map BS.l).take k)).length<=1048736:=by
 have h:=jA 65536 ((ls.map BS.l).take k) (fun x hx=>by
   obtain⟨y,hy,rfl⟩:=Xd.1 (Yd hx);exact he y hy) dc
 have h2:((ls.map BS.l).take k).length<=16:=so;have h3:=Xp (10+65536) h2;omega
attribute [local irreducible] fH dS bN jt wB
theorem Gu{a:Option Addr}{l:List UInt8}{c:Nat}(hl:l.length<=1000000){pa:Option Addr}{pc:Nat}{ls:List BS}[rc:gy w0 H (.slice pa ls.length pc) 1 (ls.map BS.val)][rce:ju w0 H ls](hn:ls.length<=16)(he:∀x∈ls,x.l.length<=65536):CT prog w0 (row (.slice a (l).length c) 5 1 (aE (l))::H) 144 [.slice a l.length c,.agg (aX h).toArray,.slice pa ls.length pc] (α:=AC) (fun y=> .slice y.a (l++ox h (ls.map BS.l)).length y.c) (fun y=>row (.slice y.a (l++ox h (ls.map BS.l)).length y.c) 5 1 (aE (l++ox h (ls.map BS.l)))::H):=by
 refine al func144 rfl ntmps144 rfl (gG ?_);refine ze rfl (aZ rfl (fun b4=>gG ?_));refine zq (rf rfl underlying46 rfl rfl) rfl ?_;refine ze rfl (bR (sv:= .slice _ _ _) (xv:= .slice _ _ _) (hn:=dT.hash h inferInstance inferInstance dc) rfl rfl so rfl (fun a11 c11=>gG ?_));refine acQ ?_;refine ze rfl (zc (kj (l:=l++h.toList) so om om) rfl (fun x15=>?_));rw[XA];rw[show(l++h.toList++packed ls.length)=((l++h.toList++packed ls.length)++texts ((ls.map BS.l).take 0))from by simp[texts]];refine gG ?_;refine bH [0,8,18,19,20,21,22,23,24,25] [18,0] (fun us H'=>∃(k:Nat)(a0:Option Addr)(c0:Nat),us=[.int .i64 (k:Int),.slice a0 ((l++h.toList++packed ls.length)++texts ((ls.map BS.l).take k)).length c0]/\row (.slice a0 (((l++h.toList++packed ls.length)++texts ((ls.map BS.l).take k))).length c0) 5 1 (aE (((l++h.toList++packed ls.length)++texts ((ls.map BS.l).take k))))::aF b4 (.cells (aX h).toArray 46 (0,0))::H=H'/\k<=ls.length) (fun us=>match us with| .int _ i::_=>ls.length-i.toNat|_=>0) ⟨0,x15.a,x15.c,rfl,rfl,om⟩ SB ?_;rintro τ0 _ _ ⟨k,a0,c0,rfl,rfl,hk0⟩ _;refine gG ?_;refine yC ?_ ?_<;>intro h19 p19
 ·have hk:k<ls.length:=om;refine gG ?_;refine ZK ?_;have hbk:dT w0 H (.slice ls[k].a ls[k].l.length ls[k].c) ls[k].l:=ju.get (ls:=ls) inferInstance (W1 hk);refine ze rfl (zc (gW (l:=((l++h.toList++packed ls.length)++texts ((ls.map BS.l).take k))) (l2:=ls[k].l) (by have:=vz hn he k;have:=bw ls.length om;simp only[WX,XW];omega) (by have:=he _ (W1 hk);omega)) rfl (fun x24=>?_));rw[show((l++h.toList++packed ls.length)++texts ((ls.map BS.l).take k))++packed ls[k].l.length++ls[k].l=((l++h.toList++packed ls.length)++texts ((ls.map BS.l).take (k+1)))from by rw[DT ls hk];simp only[aY,W4]];refine gA ?_;exact xl ⟨k+1,x24.a,x24.c,rfl,rfl,om⟩
 obtain rfl:k=ls.length:=om;rw[W7 (i:=ls.length) (l:=ls.map BS.l) sm,show(l++h.toList++packed ls.length)++texts (ls.map BS.l)=l++ox h (ls.map BS.l)from by simp only[ox,W4,WZ]];refine gG ?_;refine Za ?_;exact zX ⟨a0,c0⟩ [_] results144 ⟨rfl,trivial⟩ rfl SB
def gZ(x:iB):List UInt8:=1::eV x
theorem LQ{n:Int}{p:PS}:([1]++fixed (IntKind.u64.wrap n).toNat 2)++packed b.l.length++b.l++ox h (p.ls.map BS.l)=gZ (ah.abs (ah.mk n h b p)):=by
 simp[gZ,eV,aY,ah.abs,W4]
theorem nL{n:Int}{p:PS}[rb:dT w0 H (.slice b.a b.l.length b.c) b.l][rp:gy w0 H (.slice p.a p.ls.length p.c) 1 (p.ls.map BS.val)][re:ju w0 H p.ls](hb:b.l.length<=65536)(hp:p.ls.length<=16)(he:∀x∈p.ls,x.l.length<=65536):CT prog w0 (H) 79 [.agg (ah.mk n h b p).cells] (α:=AC) (fun y=> .slice y.a (gZ (ah.abs (ah.mk n h b p))).length y.c) (fun y=>row (.slice y.a (gZ (ah.abs (ah.mk n h b p))).length y.c) 5 1 (aE (gZ (ah.abs (ah.mk n h b p))))::H):=by
 refine al func79 rfl ntmps79 rfl (gG ?_);refine ze rfl (aZ rfl (fun b1=>gG ?_));refine ze rfl (dH (v:= .int .u8 1) rfl (fun a4 c4=>?_));rw[show(Value.slice a4 1 c4)= .slice a4 ([1]:List UInt8).length c4 from rfl,show([.int .u8 1]:List Value)=aE [1]from rfl];refine gG ?_;refine aa4 ?_;refine ze rfl (zc (eK (l:=[1]) (x:=IntKind.u64.wrap n) (n:=2) sm (fb _)) rfl (fun x8=>?_));rw[vj];refine gG ?_;refine dw (aF b1 (.cells (ah.mk n h b p).cells 50 (0,0))::H) [(0,true),(1,true),(2,true),(4,true),(5,true),(6,true),(7,true),(3,false),(8,false),(9,true)] (fun hns0=>?_);refine zd hns0 rfl (zm (.slice _ _ _) rfl) rfl (zd hns0 rfl (zf 33 rfl rfl) rfl (zd hns0 rfl (zl rfl) rfl (zd hns0 rfl (zf 1 rfl rfl) rfl (zd hns0 rfl (zn rfl rfl) rfl (zd hns0 rfl (zf 34 rfl rfl) rfl ?_)))));refine gA ?_;refine cX rfl rfl (zc (gW (l:=([1]++fixed (IntKind.u64.wrap n).toNat 2)) (l2:=b.l) aeA om) rfl (fun x12=>⟨SB,?_⟩));refine gX (fun w hw=>(SB w hw:St w0 (row (.slice x12.a (([1]++fixed (IntKind.u64.wrap n).toNat 2)++packed b.l.length++b.l).length x12.c) 5 1 (aE (([1]++fixed (IntKind.u64.wrap n).toNat 2)++packed b.l.length++b.l))::aF b1 (.cells (ah.mk n h b p).cells 50 (0,0))::H) w)) ?_;refine cX rfl rfl (zc (Gu (l:=([1]++fixed (IntKind.u64.wrap n).toNat 2)++packed b.l.length++b.l) (by have:=bw b.l.length om;simp only[WX,aO,XB];omega) hp he) rfl (fun x17=>⟨SB,(gA ?_)⟩));rw[LQ];exact zX x17 [_] results79 ⟨rfl,trivial⟩ rfl SB
theorem HW(v:Vector UInt8 32)(i:Nat)(hi:i<32)(c:UInt8):bD (aX v).toArray i (.int .u8 (c.toNat:Int)) (aX (v.set i c)).toArray:=by
 have hl:(aX v).length=32:=sm;have e1:aX v=(aX v).take i++(((aX v).drop i).take 1++(aX v).drop (i+1)):=by
   rw[←W4,W4,←X2,XC,XC]
 have:=bD.fr ((aX v).take i) (((aX v).drop i).take 1) ((aX v).drop (i+1)) (cs:=(aX v).toArray) (o:=i) (n:=1) (v:= .int .u8 (c.toNat:Int)) (congrArg List.toArray e1) so so rfl;rw[yo v i hi c];simpa[Value.cells,jM]using this
theorem Ht{q k:Nat}[rb:dT w0 H (.slice b.a b.l.length b.c) b.l]{ps:List (List UInt8)}(hd:b.l.drop k=ox h ps)(hk:k<=b.l.length)(hl:b.l.length<=4294960000)(hn:ps.length<=16)(he:∀x∈ps,x.length<=65536):CT prog w0 (aF q (.cells (bf.mk b ((k:Nat):Int)).cells 192 (0,0))::H) 116 [.pointer (some ⟨q,0,none⟩)] (α:=(AC×List BS)×List Nat) (fun y=> .tuple #[.agg (aX h).toArray,.slice y.1.1.a y.1.2.length y.1.1.c,.int .i64 0]) (fun y=>pu (y.1.2.map BS.l=ps)::row (.slice y.1.1.a y.1.2.length y.1.1.c) 47 1 (y.1.2.map BS.val)::ep y.2 y.1.2::aF q (.cells (bf.mk b ((b.l.length:Nat):Int)).cells 192 (0,0))::H):=by
 refine al func116 rfl ntmps116 rfl (gG ?_);refine ze rfl (an (fun b2=>gG ?_));refine bH [3,4,5,6,7,11,12,13,14,15,16,17,18,19,20,21,22,23,24,25,26,27] [11,3,4] (fun us H'=>∃(i:Nat),us=[.int .i64 (i:Int),.slice none 0 0,.int .i64 0]/\aF q (.cells (bf.mk b ((k+i:Nat):Int)).cells 192 (0,0))::aF b2 (.cells (aX (oJ h i)).toArray 46 (0,0))::H=H'/\i<=32/\(k+i<=b.l.length)/\(b.l.drop (k+i)=h.toList.drop i++(packed ps.length++texts ps))) (fun us=>match us with| .int _ i::_=>32-i.toNat|_=>0) ⟨0,rfl,rfl,om,hk,hd⟩ (fun w hw=>by
  rw[yg];exact(SB w hw:St w0 (aF q (.cells (bf.mk b ((k:Nat):Int)).cells 192 (0,0))::aF b2 (.cells (aX (zeroV 32)).toArray 46 (0,0))::H) w)) ?_
 rintro τ0 _ _ ⟨i,rfl,rfl,hi0,hie,hdh⟩ _;refine gG ?_;refine yC ?_ ?_<;>intro h12 p12
 ·refine gG ?_;refine aU q ?_;have hi:i<32:=om;have hdi:b.l.drop (k+i)=fixed h[i].toNat 1++(h.toList.drop (i+1)++(packed ps.length++texts ps)):=by
   rw[qH,hdh,Xu acq];simp
  refine ze rfl (zc (jW (b:=b) (k:=k+i) (n:=((1:Nat):Int)) om om) rfl (fun x16=>?_));obtain⟨e1,e2,e3,hd5,hle5⟩:=j5 hdi rfl (by have:=h[i].toNat_lt;omega);rw[e1,e2,e3];refine gG ?_;refine Zb ?_;refine aby ?_;rw[kM .u8 rfl (by have:=h[i].toNat_lt;show _<2^8;omega)];have hput:=HW (oJ h i) i hi h[i];rw[C2]at hput;refine zq (aQ (sz:=1) i i rfl rfl underlying46 rfl rfl (by rw[XO];exact hi) om) rfl ?_;refine adD ?_;exact xl ⟨i+1,rfl,rfl,om,hle5,hd5⟩
 have hi:i=32:=om;subst hi;rw[Bv];have hd32:b.l.drop (k+32)=packed ps.length++texts ps:=by rw[hdh,XV sm];rfl
 refine gG ?_;refine Za ?_;refine aU q ?_;refine ze rfl (zc (sg (b:=b) (k:=k+32) (m:=16) om om dc) rfl (fun x30=>?_));obtain⟨e1,e2,e3,hd7,hle7⟩:=wR hd32 om (by omega:(ps.length:Int)<=16);rw[e1,e2,e3];refine gG ?_;refine bH [3,4,9,10,34,35,36,37,38,39,40,41,42,43,44,45,46,47,48,49] [34,3,4] (fun us H'=>∃(k2:Nat)(g:Nat)(a3:Option Addr)(c3:Nat)(ms:List BS)(fp:List Nat),us=[.int .i64 (k2:Int),.slice a3 ms.length c3,.int .i64 0]/\row (.slice a3 ms.length c3) 47 1 (ms.map BS.val)::ep fp ms::aF q (.cells (bf.mk b ((g:Nat):Int)).cells 192 (0,0))::aF b2 (.cells (aX h).toArray 46 (0,0))::H=H'/\k2<=ps.length/\(b.l.drop g=texts (ps.drop k2))/\(ms.map BS.l=ps.take k2)/\(g<=b.l.length)) (fun us=>match us with| .int _ i::_=>ps.length-i.toNat|_=>0) ⟨0,(k+32+(packed ps.length).length),none,0,[],[],rfl,rfl,om,hd7,rfl,hle7⟩ (fun w hw=>by
  have h0:St w0 (aF q (.cells (bf.mk b (((k+32+(packed ps.length).length):Nat):Int)).cells 192 (0,0))::aF b2 (.cells (aX h).toArray 46 (0,0))::H) w:=SB w hw;exact(h0.pO).cT 47 1) ?_
 rintro τ1 _ _ ⟨k2,g,a3,c3,ms,fp,rfl,rfl,hk20,hdq,hms,hge⟩ _;have hml:ms.length=k2:=aex;refine gG ?_;refine yC ?_ ?_<;>intro h35 p35
 ·have hk2:k2<ps.length:=om;refine gG ?_;refine aU q ?_;have hdk:b.l.drop g=aY ps[k2]++texts (ps.drop (k2+1)):=by rw[hdq,←uT];congr 1;exact Xu hk2
  have hck:=he ps[k2] (W1 hk2);refine ze rfl (zc (kN (b:=b) (k:=g) (m:=65536) om om dc) rfl (fun x38=>?_));obtain⟨e1,e2,e3,hd8,hle8⟩:=ix hdk om (by omega:(ps[k2].length:Int)<=65536);rw[e1,e2,e3];refine gG ?_;refine Zb ?_;refine ze rfl (dH (v:= .slice _ _ _) rfl (fun a47 c47=>?_));refine ze rfl (ot (sv:= .slice _ _ _) (xv:= .slice _ _ _) (⟨x38.a,x38.c,ps[k2]⟩:BS) rfl rfl om rfl (fun a48 c48=>gA ?_));apply bW
  case ha=>exact aff
  case hI=>exact⟨k2+1,_,a48,c48,ms++[(⟨x38.a,x38.c,ps[k2]⟩:BS)],bQ (.slice x38.a ps[k2].length x38.c)++fp,rfl,rfl,om,hd8,by rw[Xi,hms,fR _ _ hk2];rfl,hle8⟩
  case hm=>exact by show ps.length-(k2+1:Int).toNat<ps.length-(k2:Int).toNat;omega
  case hH=>exact fun w hw=>by
                have h1:St w0 (row (.slice a48 (ms++[(⟨x38.a,x38.c,ps[k2]⟩:BS)]).length c48) 47 1 ((ms++[(⟨x38.a,x38.c,ps[k2]⟩:BS)]).map BS.val)::row (BS.val (⟨x38.a,x38.c,ps[k2]⟩:BS)) 5 1 (aE (BS.l (⟨x38.a,x38.c,ps[k2]⟩:BS)))::ep fp ms::aF q (.cells (bf.mk b ((g+(aY ps[k2]).length:Nat):Int)).cells 192 (0,0))::aF b2 (.cells (aX h).toArray 46 (0,0))::H) w:=SB w hw;exact ng h1
 obtain rfl:k2=ps.length:=om;rw[List.drop_length]at hdq;rw[XE]at hms;have hgl:b.l.length<=g:=YL.1 hdq;obtain rfl:g=b.l.length:=om;refine gG ?_;refine Za ?_;refine aag ?_;exact zX ((⟨a3,c3⟩,ms),fp) [_,_,_] results116 ⟨⟨_,rfl,ak rfl⟩,rfl,rfl,trivial⟩ rfl (fun w hw=>(SB w hw:St w0 (row (.slice a3 ms.length c3) 47 1 (ms.map BS.val)::ep fp ms::aF q (.cells (bf.mk b ((b.l.length:Nat):Int)).cells 192 (0,0))::H) w).aC hms)
end
section
structure ib(x:iB):Prop where
 n0:0<=x.n
 n:x.n<65536
 batch:x.batch.length<=65536
 parts:x.parts.length<=16
 each:∀c∈x.parts,c.length<=65536
variable {x:iB} {w0:World} {H:List SA}
theorem nI(h:ib x):∃m:Nat,x.n=(m:Int)/\m<65536/\eV x=fixed m 2++(aY x.batch++ox x.hash x.parts):=by
 obtain⟨m,hm⟩:=Xl h.n0;refine⟨m,hm,by have:=h.n;omega,?_⟩;unfold eV;rw[hm,wrap_u64 om (by have:=h.n;omega)];rfl
theorem Hm(h:ib x):(eV x).length<=2000000:=by
 obtain⟨m,-,-,e⟩:=nI h;have h1:=iu x.batch h.batch;have h2:=jA 65536 x.parts h.each dc;have h3:=Xp (10+65536) h.parts;have h4:=bw x.parts.length (by have:=h.parts;omega);have h5:=h.batch;rw[e];simp only[ox,WX,aO,XW];omega
attribute [local irreducible] fH dS bN jt wB
theorem uI{a:Option Addr}{l:List UInt8}{c:Nat}[hr:dT w0 H (.slice a l.length c) l](hl:l=eV x)(hx:ib x):CT prog w0 (H) 64 [.slice a l.length c] (α:=ah×List Nat) (fun y=> .tuple #[.agg y.1.cells,.int .i64 0]) (fun y=>pu (y.1.abs=x)::dX y.2 (Deep.leads y.1)::H):=by
 obtain⟨m,hm0,hm1,hft⟩:=nI hx;have hsl:=Hm hx;refine al func64 rfl ntmps64 rfl (gG ?_);refine ze rfl (an (fun b2=>gG ?_));refine ze rfl (zc (lD (by rw[hl];omega)) rfl (fun x11=>?_));refine aV (fun hb=>?_);rw[hl,hft]at hb;have hbl:x11.2.l.length<=2000000:=by rw[hb,←hft];exact hsl
 have hd0:x11.2.l.drop 0=fixed m 2++_:=hb;refine gG ?_;refine ze rfl (an (fun b5=>gG ?_));refine aU x11.1 ?_;refine ze rfl (zc (jW (b:=x11.2) (k:=0) (n:=((2:Nat):Int)) om om) rfl (fun x14=>?_));obtain⟨e1,e2,e3,hd1,hle1⟩:=j5 hd0 rfl om;rw[e1,e2,e3];refine gG ?_;refine Zh ?_;refine aax ?_;refine aU x11.1 ?_;refine ze rfl (zc (kN (b:=x11.2) (k:=0+2) (m:=65536) om om dc) rfl (fun x22=>?_));obtain⟨e1,e2,e3,hd2,hle2⟩:=ix hd1 (by have:=hx.batch;omega) (by have:=hx.batch;omega:(x.batch.length:Int)<=65536);rw[e1,e2,e3];refine gG ?_;refine Zb ?_;refine zq (zf 33 rfl rfl) rfl ?_;refine aaM ?_;refine aU x11.1 ?_;refine ze rfl (zc (Ht (q:=x11.1) (b:=x11.2) (k:=0+2+(aY x.batch).length) (h:=x.hash) (ps:=x.parts) hd2 hle2 om hx.parts hx.each) rfl (fun x33=>?_));refine aV (fun h33=>?_);refine gG ?_;refine aa1 ?_;refine af4 ?_;refine aaM ?_;refine aag ?_;refine sI (H':=fun fp=>dX fp (Deep.leads (ah.mk (m:Int) x.hash ⟨x22.a,x22.c,x.batch⟩ ⟨x33.1.1.a,x33.1.1.c,x33.1.2⟩))::aF b2 (.cells (ah.mk (m:Int) x.hash ⟨x22.a,x22.c,x.batch⟩ ⟨x33.1.1.a,x33.1.1.c,x33.1.2⟩).cells 50 (0,0))::H) (fun w hw=>St.FK (m:=(ah.mk (m:Int) x.hash ⟨x22.a,x22.c,x.batch⟩ ⟨x33.1.1.a,x33.1.1.c,x33.1.2⟩)) (SB w hw:St w0 (row (.slice x33.1.1.a x33.1.2.length x33.1.1.c) 47 1 (x33.1.2.map BS.val)::ep x33.2 x33.1.2::row (.slice x22.a x.batch.length x22.c) 5 1 (aE x.batch)::aF b2 (.cells (ah.mk (m:Int) x.hash ⟨x22.a,x22.c,x.batch⟩ ⟨x33.1.1.a,x33.1.1.c,x33.1.2⟩).cells 50 (0,0))::H) w)) (fun fp2=>?_)
 exact zX ((ah.mk (m:Int) x.hash ⟨x22.a,x22.c,x.batch⟩ ⟨x33.1.1.a,x33.1.1.c,x33.1.2⟩),fp2) [_,_] results64 ⟨⟨_,rfl,ak rfl⟩,rfl,trivial⟩ rfl (aP (by simp only[ah.abs,h33,←hm0]) SB)
def fS(t:List UInt8):List UInt8:=aY t++(fH (aY t)).toList.take 8
theorem E5{a:Option Addr}{l:List UInt8}{c:Nat}[hr:dT w0 H (.slice a l.length c) l](hl:l.length<=1400000):CT prog w0 (H) 62 [.slice a l.length c] (α:=AC) (fun y=> .slice y.a (fS l).length y.c) (fun y=>row (.slice y.a (fS l).length y.c) 5 1 (aE (fS l))::H):=by
 have hp1:=bw l.length om;have htb:(aY l).length=(packed l.length).length+l.length:=by simp[aY]
 refine al func62 rfl ntmps62 rfl (gG ?_);refine ze rfl (zc (gW (a:=none) (l:=[]) (c:=0) (l2:=l) (hr:=dT.B4) sm om) rfl (fun x6=>?_));rw[show([]:List UInt8)++packed l.length++l=aY l from rfl];refine gG ?_;refine ze rfl (zc (CP (l:=aY l) (by rw[htb];omega)) rfl (fun x8=>?_));refine ze rfl (an (fun b4=>?_));refine aag ?_;refine zq (bI (mH (m:=8) rfl rfl underlying46 rfl rfl dc) (show Value.slice (some ⟨b4,0,none⟩) 8 32= .slice (some ⟨b4,0,none⟩) ((fH (aY l)).toList.take 8).length 32 from by simp)) rfl ?_;refine ze rfl (bR (sv:= .slice _ _ _) (xv:= .slice _ _ _) (hn:=dT.AQ (fH (aY l)) inferInstance dc dc) (l:=aY l) rfl rfl (by rw[htb];simp only[Xj,XW];omega) rfl (fun a11 c11=>?_));rw[show aY l++(fH (aY l)).toList.take 8=fS l from rfl];refine gG ?_;exact zX ⟨a11,c11⟩ [_] results62 ⟨rfl,trivial⟩ rfl SB
theorem Ea{b:List UInt8}{t:List UInt8}(h:b=fS t):b.drop 0=aY t++(fH (aY t)).toList.take 8:=h
theorem lU(t:List UInt8):(fS t).length=(aY t).length+8:=by simp[fS]
theorem Lu{p:Nat}{s:DS}{M K:Nat}(hok:s.Ok M K)(hM:M<=1000000)(hK:K<=1000000000)(he:eZ s.e2 jJ=true){t:List UInt8}(hc:(gl s.e2 jJ).l=fS t)(ht:t.length<=65536):CT prog w0 (DS.H p s H) 24 [.pointer (some ⟨p,0,none⟩),.string jJ] (α:=AC) (fun y=> .tuple #[.slice y.a t.length y.c,.int .i64 0]) (fun y=>row (.slice y.a t.length y.c) 5 1 (aE t)::DS.H p s H):=by
 refine afd ?_;refine ze rfl (zc (uG) rfl (fun x13=>gG ?_));refine Zb ?_;refine ze rfl (zc (uz (p:=p) (s:=s) hok hM om (nm:=jJ)) rfl (fun x20=>?_));rw[if_pos he];have htl:=iu t ht;refine gG ?_;refine Zb ?_;refine ze rfl (zc (lD (l:=(gl s.e2 jJ).l) (by rw[hc,lU];omega)) rfl (fun x27=>?_));refine aV (fun hb=>?_);refine gG ?_;refine aU x27.1 ?_;refine ze rfl (zc (kN (b:=x27.2) (k:=0) (m:=65536) om (by rw[hb,hc,lU];omega) dc) rfl (fun x30=>?_));obtain⟨e1,e2,e3,hd2,hle2⟩:=ix (Ea (hb.trans hc)) om (by omega:(t.length:Int)<=65536);rw[e1,e2,e3];refine gG ?_;refine Zb ?_;refine aU x27.1 ?_;refine ze rfl (zc (wK (b:=x27.2) (k:=0+(aY t).length) om (by rw[hb,hc,lU];omega)) rfl (fun x38=>?_));rw[show x27.2.l.length-(0+(aY t).length)=8 from by rw[hb,hc,lU];omega];refine gG ?_;refine Zb ?_;refine ze rfl (zc (E5 (l:=t) om) rfl (fun x42=>gG ?_));refine ze rfl (zc (Fe (l:=fS t) (m:=(gl s.e2 jJ).l) (by rw[lU];omega)) rfl (fun x44=>?_));rw[decide_eq_true hc.symm];refine gG ?_;refine Zb ?_;refine fU rfl (fU rfl (fU rfl ?_));refine gG ?_;exact zX x30 [_,_] results24 ⟨rfl,rfl,trivial⟩ rfl SB
end
section
theorem KO(k:Nat)(hk:k<65536)(r:List UInt8):bx (fixed k 2++r) 2=(0,k,2):=ql k 2 r rfl om
theorem AX(k n:Nat)(r:List UInt8):(fixed k n++r).drop n=r:=by
 rw[Yi aez,XV aez,Xh]
theorem xC{n:Int}{m:Nat}(hr:dC n m=true)(hm:m<65536):eL (bO n m)=(0,⟨n,(m:Int)⟩):=by
 have hn:=kx hr;obtain⟨k,rfl⟩:=Xl hn.1;have e:bO (k:Int) m=fixed k 2++fixed m 2:=by
   unfold bO;rw[if_pos hr,wrap_u64 om om];rfl
 have h1:=KO k om (fixed m 2);have h2:=AX k 2 (fixed m 2);have h3:bx (fixed m 2) 2=(0,m,2):=by have:=KO m hm [];rwa [Xn]at this
 have hl:(fixed k 2++fixed m 2).length=4:=by rw[WX,aO,aO]
 unfold eL;rw[e,hl,if_neg om,h1,h2,h3];simp only;rw[if_neg (by rw[hr];simp)]
theorem rE{k:Nat}(hk:k<256):fixed k 1=[UInt8.ofNat k]:=by
 have:=qH (UInt8.ofNat k)
 rwa [show(UInt8.ofNat k).toNat=k from by simp;omega]at this
theorem nQ{k:Nat}(hk:k<256):(UInt8.ofNat k).toNat=k:=so
structure A9(r:ar):Prop where
 c:0<=r.aG/\r.aG<256
 s:0<=r.seq/\r.seq<256
 l:0<=r.slot/\r.slot<256
 n:db r.res.n
theorem Eh{r:ar}(h:A9 r):cR (eE r)=(0,r):=by
 obtain⟨c,s,sl,⟨ok,n⟩⟩:=r;obtain⟨⟨c0,c1⟩,⟨s0,s1⟩,⟨l0,l1⟩,hn⟩:=h;simp only at c0 c1 s0 s1 l0 l1 hn;obtain⟨c,rfl⟩:=Xl c0;obtain⟨s,rfl⟩:=Xl s0;obtain⟨sl,rfl⟩:=Xl l0;have w:∀k:Nat,k<256->(IntKind.u64.wrap (k:Int)).toNat=k:=fun k hk=>by rw[wrap_u64 om om];rfl
 obtain⟨o,ho,ho2⟩:∃o:Nat,MW ok=(o:Int)/\o<2:=by cases ok;exact⟨0,rfl,om⟩;exact⟨1,rfl,om⟩
 have e:eE ⟨(c:Int),(s:Int),(sl:Int),⟨ok,n⟩⟩=UInt8.ofNat c::UInt8.ofNat s::UInt8.ofNat sl::UInt8.ofNat o::packed (eW n):=by
   unfold eE;simp only;rw[ho,w c om,w s om,w sl om,w o om,rE om,rE om,rE om,rE om];rfl
 have hp:aq (packed (eW n))=(0,eW n,(packed (eW n)).length):=by
   have:=jX (eW n) [] (jj hn);rwa [Xn]at this
 unfold cR;rw[e];simp only[Xq,List.drop_succ_cons,XI,List.getD_cons_zero,List.getD_cons_succ,hp];rw[if_neg om,if_neg sm,if_neg (by rw[nQ om];omega),tO hn,nQ om,nQ om,nQ om,nQ om];cases ok
 · have:o=0:=by have:MW false=0:=rfl;omega
   subst this;rfl
 · have:o=1:=by have:MW true=1:=rfl;omega
   subst this;rfl
theorem su(cs:Vector ax 16)(k:Nat):∀d,k+d<=16->∃r,eY cs (k+d)=eY cs k++r
 |0,_=>⟨[],sm⟩
 |d+1,h=>by
   obtain⟨r,hr⟩:=su cs k d om;cases ht:(cs[k+d]'om).there
   · exact⟨r,by rw[←X9,jq om ht,hr]⟩
   · exact⟨r++(fixed (k+d) 1++packed (eW (cs[k+d]'om).n)),by rw[←X9,←nh om ht,hr];simp only[W4]⟩
theorem uc(cs:Vector ax 16)(k:Nat):∀d,k+d<=16->dR cs k<=dR cs (k+d)
 |0,_=>W8 _
 |d+1,h=>by
   have:=uc cs k d om;cases ht:(cs[k+d]'om).there
   · rw[←X9,nu om ht];exact this
   · rw[←X9,←mW om ht];omega
def uo(cs:Vector ax 16)(j:Nat):Vector ax 16:=Vector.ofFn fun i=>if i.val<j then cs[i]else ax.zero
theorem NO(cs:Vector ax 16):uo cs 0=nE:=by
 apply Yv;intro i hi;simp[uo,nE]
theorem KS(cs:Vector ax 16):uo cs 16=cs:=by
 apply Yv;intro i hi;simp[uo,hi]
theorem CN(cs:Vector ax 16)(j:Nat)(hj:j<16):(uo cs j).set j cs[j]=uo cs (j+1):=by
 apply Yv;intro i hi;by_cases e:j=i
 · subst e;simp[uo]
 · rw[YJ _ _ e]
   simp only[uo,YF,Fin.getElem_fin];by_cases h1:i<j<;>simp[h1]<;>omega
theorem Gq(cs:Vector ax 16)(j:Nat)(hj:j<16)(h:cs[j]=ax.zero):uo cs (j+1)=uo cs j:=by
 rw[←CN cs j hj,h];apply Yv;intro i hi;by_cases e:j=i
 · subst e;simp[uo]
 · rw[YJ _ _ e]
theorem IT{cs:Vector ax 16}(hs:∀(i:Nat)(hi:i<16),db cs[i].n)(hz:∀(i:Nat)(hi:i<16),cs[i].there=false->cs[i].n=0):∀j:Nat,j<=16->∃la:Int,la<(j:Int)/\
   jP (lu cs) (dR cs 16) (packed (dR cs 16)).length (-1) nE=jP (lu cs) (dR cs 16-dR cs j) ((packed (dR cs 16)).length+(eY cs j).length) la (uo cs j)
 |0,_=>⟨-1,dc,by rw[NO];rfl⟩
 |j+1,hj=>by
   obtain⟨la,hla,ih⟩:=IT hs hz j om;cases ht:(cs[j]'om).there
   · refine⟨la,om,?_⟩
     have e0:cs[j]'om=ax.zero:=by
       have:=hz j om ht;rw[show cs[j]'om=⟨(cs[j]'om).there,(cs[j]'om).n⟩from rfl,ht,this]
     rw[ih,nu om ht,jq om ht,Gq cs j om e0]
   · obtain⟨r,hr⟩:=su cs (j+1) (16-(j+1)) om
     rw[show j+1+(16-(j+1))=16 by omega]at hr;have hm:=uc cs (j+1) (16-(j+1)) om;rw[show j+1+(16-(j+1))=16 by omega]at hm;have hn1:=mW (cs:=cs) (k:=j) om ht;have hb:=nh (cs:=cs) (k:=j) om ht;have hd:(lu cs).drop ((packed (dR cs 16)).length+(eY cs j).length)=UInt8.ofNat j::(packed (eW (cs[j]'om).n)++r):=by
       rw[lu,hr,←hb,rE om];rw[show packed (dR cs 16)++(eY cs j++[UInt8.ofNat j]++packed (eW (cs[j]'om).n)++r)=(packed (dR cs 16)++eY cs j)++(UInt8.ofNat j::(packed (eW (cs[j]'om).n)++r))from by simp[W4],←WX,YQ]
     have hq:(packed (dR cs 16)).length+(eY cs j).length<(lu cs).length:=by
       rcases X7 ((packed (dR cs 16)).length+(eY cs j).length) (lu cs).length with h|h
       · exact h
       · rw[XV h]at hd;cases hd
     have hg:(lu cs).getD ((packed (dR cs 16)).length+(eY cs j).length) 0=UInt8.ofNat j:=by
       have:=congrArg (fun l=>l.getD 0 0) hd;simpa[Xy,Yw]using this
     have hp:aq ((lu cs).drop ((packed (dR cs 16)).length+(eY cs j).length+1))=(0,eW (cs[j]'om).n,(packed (eW (cs[j]'om).n)).length):=by
       rw[←X2,hd];exact jX _ r (jj (hs j om))
     refine⟨(j:Int),om,?_⟩;rw[ih,show dR cs 16-dR cs j=(dR cs 16-dR cs (j+1))+1 by omega,jP,if_neg om,if_neg (by rw[hp];simp),if_neg (by rw[hg,nQ om];omega),hg,hp,nQ om,tO (hs j om),Az _ _ (show j<16 by omega)];rw[show(⟨true,(cs[j]'om).n⟩:ax)=cs[j]'om from by rw[←ht],CN cs j om,←hb];simp only[WX,aO];rw[show(packed (dR cs 16)).length+(eY cs j).length+1+(packed (eW (cs[j]'om).n)).length=(packed (dR cs 16)).length+((eY cs j).length+1+(packed (eW (cs[j]'om).n)).length) by omega]
theorem KI{cs:Vector ax 16}(hs:∀(i:Nat)(hi:i<16),db cs[i].n)(hz:∀(i:Nat)(hi:i<16),cs[i].there=false->cs[i].n=0):k9 (lu cs)=(0,cs):=by
 have hc:=mf (dR cs 16) 16 (eY cs 16) adz adz;obtain⟨la,-,h⟩:=IT hs hz 16 om;rw[Y8,DG,KS,←WX]at h;unfold k9;rw[show ay (lu cs) 16=_ from hc];simp only;rw[h];simp[lu]
structure lL(W:aj):Prop where
 slot:0<=W.slot/\W.slot<65536
 first:0<=W.first/\W.first<65536
 view:∃m:Nat,m<65536/\W.view.mask=(m:Int)/\dC W.view.num m=true
 fM:∃m:Nat,m<65536/\W.fM.mask=(m:Int)/\dC W.fM.num m=true
 cs:∀(i:Nat)(hi:i<16),db W.cs[i].n
 none:∀(i:Nat)(hi:i<16),W.cs[i].there=false->W.cs[i].n=0
 last:∀(i:Nat)(hi:i<6),A9 W.last[i]
theorem lL.ic{W:aj}(h:lL W):ja W:=
 ⟨let ⟨m,a,b,_⟩:=h.view;⟨m,a,b⟩,let ⟨m,a,b,_⟩:=h.fM;⟨m,a,b⟩,h.cs,fun i hi=>(h.last i hi).n⟩
def wC(rs:Vector ar 6)(j:Nat):Vector ar 6:=Vector.ofFn fun i=>if i.val<j then rs[i]else ar.zero
theorem No(rs:Vector ar 6):wC rs 0=Vector.replicate 6 ar.zero:=by
 apply Yv;intro i hi;simp[wC]
theorem Ny(rs:Vector ar 6):wC rs 6=rs:=by
 apply Yv;intro i hi;simp[wC,hi]
theorem JV(rs:Vector ar 6)(j:Nat)(hj:j<6):(wC rs j).set j rs[j]=wC rs (j+1):=by
 apply Yv;intro i hi;by_cases e:j=i
 · subst e;simp[wC]
 · rw[YJ _ _ e]
   simp only[wC,YF,Fin.getElem_fin];by_cases h1:i<j<;>simp[h1]<;>omega
def pA(rs:Vector ar 6)(k:Nat):List UInt8:=(rs.toList.drop k).flatMap fun r=>aY (eE r)
theorem Eb(rs:Vector ar 6)(k:Nat)(hk:k<6):pA rs k=aY (eE rs[k])++pA rs (k+1):=by
 unfold pA;rw[Xu abf,Xw];simp
theorem tD{l:List UInt8}{w:aj}{rs:Vector ar 6}(hr:∀(i:Nat)(hi:i<6),A9 rs[i]){q0:Nat}(h0:ed l 3=⟨0,q0,{w with last:=wC rs 0}⟩)(hd:l.drop q0=pA rs 0):∀k,k<=6->∃q,ed l (3+k)=⟨0,q,{w with last:=wC rs k}⟩/\l.drop q=pA rs k
 |0,_=>⟨q0,h0,hd⟩
 |k+1,hk=>by
   obtain⟨q,h1,h2⟩:=tD hr h0 hd k om;rw[Eb rs k om]at h2;have hl:(eE (rs[k]'om)).length<=14:=nR (hr k om).n;obtain⟨e1,e2,e3,e4,-⟩:=ix h2 om (by omega:((eE (rs[k]'om)).length:Int)<=1000);refine⟨_,?_,e4⟩;rw[show 3+(k+1)=(3+k)+1 from rfl];show gk l (3+k) (ed l (3+k))=_;rw[h1,Ak om rfl e1,e2,e3,Eh (hr k om)];simp only[JV rs k om]
attribute [local irreducible] k9 lu eL bO cR au gk
theorem Ec{W:aj}(h:lL W):cN (wB W)=(0,W):=by
 obtain⟨s,f,⟨n1,k1⟩,⟨n2,k2⟩,cs,rs⟩:=W;obtain⟨⟨s0,s1⟩,⟨f0,f1⟩,⟨m1,a1,b1,c1⟩,⟨m2,a2,b2,c2⟩,hc,hz,hr⟩:=h;simp only at s0 s1 f0 f1 b1 b2 c1 c2 hc hz hr;subst b1;subst b2;obtain⟨s,rfl⟩:=Xl s0;obtain⟨f,rfl⟩:=Xl f0;obtain⟨l,hl⟩:∃l,l=wB ⟨(s:Int),(f:Int),⟨n1,(m1:Int)⟩,⟨n2,(m2:Int)⟩,cs,rs⟩:=⟨_,rfl⟩;have w:∀k:Nat,k<65536->(IntKind.u64.wrap (k:Int)).toNat=k:=fun k hk=>by rw[wrap_u64 om om];rfl
 have hf:l=fixed s 2++(fixed f 2++(aY (bO n1 m1)++(aY (bO n2 m2)++(aY (lu cs)++pA rs 0)))):=by
   rw[hl];unfold wB dS;simp only;rw[w s om,w f om,show eC rs 6=pA rs 0 from by unfold eC pA;rw[XI,W7 sm]];simp only[W4,XA]
 rw[←hl];have hd2:l.drop 2=fixed f 2++(aY (bO n1 m1)++(aY (bO n2 m2)++(aY (lu cs)++pA rs 0))):=by rw[hf,AX]
 have hd4:l.drop 4=aY (bO n1 m1)++(aY (bO n2 m2)++(aY (lu cs)++pA rs 0)):=by rw[show 4=2+2 from rfl,←X2,hd2,AX]
 have h0:ed l 0=⟨0,4,{aj.zero with slot:=(s:Int),first:=(f:Int)}⟩:=by
   unfold ed;rw[hd2,KO f om,hf,KO s om]
 have hv1:=cM n1 m1;have hv2:=cM n2 m2;have hkl:=iH hc;obtain⟨e1,e2,e3,hd5,-⟩:=ix hd4 om (by omega:((bO n1 m1).length:Int)<=1000);have h1:ed l 1=⟨0,4+(aY (bO n1 m1)).length,{aj.zero with slot:=(s:Int),first:=(f:Int),view:=⟨n1,(m1:Int)⟩}⟩:=by
   show gk l 0 (ed l 0)=_;rw[h0,uE rfl e1,e2,e3,xC c1 a1]
 obtain⟨e1,e2,e3,hd6,-⟩:=ix hd5 om (by omega:((bO n2 m2).length:Int)<=1000);have h2:ed l 2=⟨0,4+(aY (bO n1 m1)).length+(aY (bO n2 m2)).length,{aj.zero with slot:=(s:Int),first:=(f:Int),view:=⟨n1,(m1:Int)⟩,fM:=⟨n2,(m2:Int)⟩}⟩:=by
   show gk l 1 (ed l 1)=_;rw[h1,uw rfl e1,e2,e3,xC c2 a2]
 obtain⟨e1,e2,e3,hd7,-⟩:=ix hd6 om (by omega:((lu cs).length:Int)<=1000);have h3:ed l 3=⟨0,4+(aY (bO n1 m1)).length+(aY (bO n2 m2)).length+(aY (lu cs)).length,{(⟨(s:Int),(f:Int),⟨n1,(m1:Int)⟩,⟨n2,(m2:Int)⟩,cs,rs⟩:aj)with last:=wC rs 0}⟩:=by
   show gk l 2 (ed l 2)=_;rw[h2,An rfl e1,e2,e3,KI hc hz,No]
 obtain⟨q,h9,hd9⟩:=tD hr h3 hd7 6 om;rw[Ny]at h9;have hq:l.length<=q:=YL.1 (by rw[hd9];unfold pA;rw[XV sm];rfl);have hlen:4<=l.length:=by rw[hf];simp only[WX,aO];omega
 unfold cN;rw[if_neg om,show ed l 9=_ from h9];simp only;rw[if_neg sm,if_neg om]
end
section
variable {l:List UInt8} {a:Int} {W:aj}
theorem Bu(h:(gP l).1=0):bh (gP l).2=true:=by
 unfold gP at h ⊢
 repeat' split at h
 all_goals first|(exact absurd h ‹_›)|(exact absurd h dc)|skip
 rename_i h1 h2 h3 h4 h5
 rw[if_neg h1,if_neg h2,if_neg h3,if_neg h4,if_neg h5];simpa using h5
theorem wW:∀(n q:Nat)(acc:List fD),(∀r∈acc,bh r=true)->∀r∈(w8 l q n acc).2.1,bh r=true
 |0,_,_,h=>h
 |n+1,q,acc,h=>by
   unfold w8
   split
   · exact h
   · split
     · exact h
     · rename_i h2
       refine wW n _ _ (fun r hr=>?_);rcases Xc.1 hr with hr|hr
       · exact h r hr
       · rw[Xb.1 hr];exact Bu (by simpa using h2)
theorem xo:∀r∈(bN l).2,bh r=true:=by
 intro r hr;unfold bN at hr
 repeat' split at hr
 all_goals first|(cases hr;done)|exact wW _ _ _ (fun _ h=>by cases h) r hr
theorem A1{r:fD}(h:bh r=true):(0<=r.aG/\r.aG<6)/\1<=r.seq/\r.seq<=8:=by
 unfold bh at h;have:=of_decide_eq_true h;exact⟨this.1,this.2.1⟩
theorem F2{th:Bool}{n kd b:Int}(h1:1<=kd)(h5:kd<=5)(h:kd≠1/\(kd≠4∨(jh th n kd a b).2.oK=true)):(jh th n kd a b).1.there=false->(jh th n kd a b).1.n=0:=by
 obtain⟨h2,h3⟩:=h;rcases(by omega:kd=2∨kd=3∨kd=4∨kd=5)with rfl|rfl|rfl|rfl
 · intro h;cases h
 · intro h;cases h
 · rcases h3 with h3|h3
   · exact absurd rfl h3
   · have e:jh th n 4 a b=if th=true/\n=a then(⟨true,b⟩,⟨true,b⟩)else(⟨th,n⟩,⟨false,n⟩):=rfl
     rw[e]at h3 ⊢;by_cases hc:th=true/\n=a
     · rw[if_pos hc];intro h;cases h
     · rw[if_neg hc]at h3;cases h3
 · intro _;rfl
theorem J7{cs:Vector ax 16}{kd ky b:Int}(hz:∀(i:Nat)(hi:i<16),cs[i].there=false->cs[i].n=0):∀(i:Nat)(hi:i<16),(tK cs kd ky a b).1[i].there=false->(tK cs kd ky a b).1[i].n=0:=by
 by_cases h:0<=ky/\ky<16/\1<=kd/\kd<=5
 · obtain⟨k,rfl⟩:∃k:Nat,ky=(k:Int):=⟨ky.toNat,om⟩
   have hk:k<16:=om;rw[oL hk h.2.2.1 h.2.2.2]
   split
   · rename_i hc
     intro i hi;show((cs.set k _ hk)[i]).there=false->((cs.set k _ hk)[i]).n=0;rw[Yl];split
     · exact F2 h.2.2.1 h.2.2.2 hc
     · exact hz i hi
   · exact hz
 · rw[k6 h];exact hz
structure MG(s:WS):Prop where
 none:∀(i:Nat)(hi:i<16),s.cs[i].there=false->s.cs[i].n=0
 last:∀(i:Nat)(hi:i<6),A9 s.last[i]
 nx:∃m:Nat,m<65536/\s.nx.mask=(m:Int)/\dC s.nx.num m=true
theorem F0{num:Int}{mk:Nat}(h:(iC num mk a).2=0):∃m:Nat,m<65536/\(iC num mk a).1.mask=(m:Int)/\dC (iC num mk a).1.num m=true:=by
 unfold iC at h ⊢
 split at h
 · cases h
 · rename_i h1
   split at h
   · cases h
   · rename_i h2
     rw[if_neg h1,if_neg h2];simp only[not_or,W6]at h1 h2;exact⟨a.toNat,om,by show a=_;omega,h2⟩
theorem Gj{view:aH}{slot:Int}{s:WS}{r:fD}(h:MG s)(hg:wb s)(hr:qo r)(hf:bh r=true)(hv:db view.num)(hs:0<=slot/\slot<256):MG (lj view slot s r):=by
 have hq:=A1 hf;have hd:=(uQ (view:=view) hg hr hv).2.1;have hn:∀(i:Nat)(hi:i<16),(iY view s.cs s.nx r).1[i].there=false->(iY view s.cs s.nx r).1[i].n=0:=by
   unfold iY
   repeat' split
   · exact h.none
   · exact h.none
   · exact J7 h.none
 have hx:∃m:Nat,m<65536/\(iY view s.cs s.nx r).2.1.mask=(m:Int)/\dC (iY view s.cs s.nx r).2.1.num m=true:=by
   unfold iY
   repeat' split
   · rename_i h2;exact F0 h2.1
   · exact h.nx
   · exact h.nx
 unfold lj
 split
 · split
   · rename_i hc _
     refine⟨hn,fun i hi=>?_,hx⟩;show A9 ((s.last.set r.aG.toNat _ om)[i]);rw[Yl];split
     · exact⟨⟨hq.1.1,by show r.aG<256;omega⟩,⟨by show 0<=r.seq;omega,by show r.seq<256;omega⟩,hs,hd⟩
     · exact h.last i hi
   · exact h
 · exact h
theorem Dk{view:aH}{slot:Int}(hv:db view.num)(hs:0<=slot/\slot<256):∀(rs:List fD)(s:WS),MG s->wb s->(∀r∈rs,qo r/\bh r=true)->MG (sH view slot s rs)
 |[],s,h,_,_=>h
 |r::rs,s,h,hg,hr=>Dk hv hs rs _ (Gj h hg (hr r sm).1 (hr r sm).2 hv hs) (vK hg (hr r sm).1 hv) (fun q hq=>hr q (by simp[hq]))
theorem lL.num(h:lL W):db W.view.num:=by
 obtain⟨m,-,-,hr⟩:=h.view;have:=kx hr;exact⟨om,om⟩
theorem Lc{rs:List fD}(h:lL W)(hs:W.slot<=200)(hr:∀r∈rs,qo r/\bh r=true):lL (jt W rs).1:=by
 have hg:=tp (slot:=W.slot+1) h.num rs ⟨W.cs,W.last,W.view,[]⟩ ⟨h.ic.cs,h.ic.last,h.ic.view⟩ (fun r hq=>(hr r hq).1);have hf:=Dk (slot:=W.slot+1) h.num ⟨by have:=h.slot;omega,om⟩ rs ⟨W.cs,W.last,W.view,[]⟩ ⟨h.none,h.last,h.view⟩ ⟨h.ic.cs,h.ic.last,h.ic.view⟩ hr;have h1:=h.slot;have h2:=h.first
 unfold jt;simp only
 split
 · exact⟨⟨by show 0<=W.slot+1;omega,by show W.slot+1<65536;omega⟩,h2,h.view,h.view,hg.cs,hf.none,hf.last⟩
 · exact⟨⟨by show 0<=W.slot+1;omega,by show W.slot+1<65536;omega⟩,⟨by show 0<=W.slot+1+1;omega,by show W.slot+1+1<65536;omega⟩,hf.nx,h.view,hg.cs,hf.none,hf.last⟩
theorem Lj(h:lL W)(hs:W.slot<=200):lL (jt W (bN l).2).1:=Lc h hs (fun r hr=>⟨tR r hr,xo r hr⟩)
end
section
theorem wY{W:aj}(hg:ja W):(wB W).length<=1000:=by
 have h1:=cM W.view.num W.view.mask.toNat;have h2:=cM W.fM.num W.fM.mask.toNat;have h3:=iH hg.cs;have h4:=kP hg.last 6 (W8 _);have h5:=iu (bO W.view.num W.view.mask.toNat) om;have h6:=iu (bO W.fM.num W.fM.mask.toNat) om;have h7:=iu (lu W.cs) om;unfold wB dS;simp only[WX,aO];omega
theorem vA{x:iB}{y:ah}(hx:ib x)(h:y.abs=x):y.batch.l.length<=4294967296/\y.parts.ls.length<=100000/\∀z∈y.parts.ls,z.l.length<=4294967296:=by
 subst h;have h1:y.batch.l.length<=65536:=hx.batch;have h2:(y.parts.ls.map BS.l).length<=16:=hx.parts;rw[WZ]at h2;exact⟨om,om,fun z hz=>by have:z.l.length<=65536:=hx.each z.l (Xd.2 ⟨z,hz,rfl⟩);omega⟩
def fj(W:aj)(x:iB):List UInt8:=aY (wB W)++aY (eV x)
attribute [local irreducible] fH dS bN jt wB eV cN
theorem MA{w0:World}{H:List SA}{a:Option Addr}{l:List UInt8}{c:Nat}{W:aj}{x:iB}[hr:dT w0 H (.slice a l.length c) l](hl:l=fj W x)(hW:lL W)(hx:ib x)(hxl:(eV x).length<=65536):CT prog w0 (H) 25 [.slice a l.length c] (α:=(ah×List Nat)×AC) (fun y=> .tuple #[.agg (aM.mk W y.1.1 ⟨none,0,0⟩ ⟨y.2.a,1,y.2.c⟩ W.slot).cells,.int .i64 0]) (fun y=>pu (y.1.1.abs=x)::dX y.1.2 (Deep.leads y.1.1)::row (.slice y.2.a 1 y.2.c) 46 32 (aX (fH (wB W)))::H):=by
 have hsl:(fj W x).length<=200000:=by
   have h1:=wY hW.ic;have h2:=iu (wB W) om;have h3:=iu (eV x) hxl;unfold fj;rw[WX];omega
 refine al func25 rfl ntmps25 rfl (gG ?_);refine ze rfl (an (fun b2=>gG ?_));refine ze rfl (zc (lD (by rw[hl];omega)) rfl (fun x10=>?_));refine aV (fun hb=>?_);rw[hl]at hb;have hbl:x10.2.l.length<=200000:=by rw[hb];exact hsl
 have hd0:x10.2.l.drop 0=aY (wB W)++aY (eV x):=hb;have hwl:=wY hW.ic;refine gG ?_;refine aU x10.1 ?_;refine ze rfl (zc (kN (b:=x10.2) (k:=0) (m:=65536) om om dc) rfl (fun x13=>?_));obtain⟨e1,e2,e3,hd1,hle1⟩:=ix hd0 om (by omega:((wB W).length:Int)<=65536);rw[e1,e2,e3];have hd1':x10.2.l.drop (0+(aY (wB W)).length)=aY (eV x)++[]:=by rw[Xn];exact hd1
 refine gG ?_;refine Zb ?_;refine ze rfl (zc (uj (l:=wB W) om) rfl (fun x21=>?_));rw[Ec hW];refine gG ?_;refine ze rfl (an (fun b7=>?_));refine aag ?_;refine Zb ?_;refine aU x10.1 ?_;refine ze rfl (zc (kN (b:=x10.2) (k:=0+(aY (wB W)).length) (m:=65536) om om dc) rfl (fun x29=>?_));obtain⟨e1,e2,e3,hd2,hle2⟩:=ix hd1' om (by omega:((eV x).length:Int)<=65536);rw[e1,e2,e3];have hend:x10.2.l.length<=0+(aY (wB W)).length+(aY (eV x)).length:=YL.1 hd2;refine gG ?_;refine Zb ?_;refine ze rfl (zc (uI (l:=eV x) (x:=x) rfl hx) rfl (fun x37=>?_));refine aV (fun h37=>?_);have hsm:x37.1.batch.l.length<=4294967296/\x37.1.parts.ls.length<=100000/\∀z∈x37.1.parts.ls,z.l.length<=4294967296:=vA hx h37;refine gG ?_;refine ze rfl (an (fun b8=>?_));refine aa1 ?_;refine zq (za (.int .i64 _) rfl) rfl (zz (zx (zS (zS (zR (zq (zm (.int .i64 _) rfl) rfl (zq (qU rfl rfl) rfl ?_)))))));refine zq (zm (.bool _) rfl) rfl (zt rfl rfl rfl (zq (zm (.pointer _) rfl) rfl (aU x10.1 ?_)));refine gG ?_;refine ze rfl (zc (nU (b:=x10.2) (k:=0+(aY (wB W)).length+(aY (eV x)).length) om om) rfl (fun x44=>?_));rw[if_neg om];refine gG ?_;refine Zb ?_;refine ze rfl (zc (rj (n:=x37.1.n) (h:=x37.1.hash) (b:=x37.1.batch) (p:=x37.1.parts) hW.ic hsm.1 hsm.2.1 hsm.2.2) rfl (fun x50=>?_));refine aV (fun h50=>?_);refine aag ?_;exact zX x50 [_,_] results25 ⟨⟨_,rfl,ak rfl⟩,rfl,trivial⟩ rfl (aP (h50.trans h37) SB)
end
section
theorem aM.head(f0:aj)(f1:ah)(f2 f3:Sl)(f4:Int):(aM.mk f0 f1 f2 f3 f4).cells=f0.cells++(f1.list++([Value.slice f2.a f2.n f2.c]++([Value.slice f3.a f3.n f3.c]++[Value.int .i64 f4]))).toArray:=by simp[aM.cells,aM.list,aj.cells]
instance (priority:=low) Uq{f0:aj}{f1:ah}{f2 f3:Sl}{f4:Int}{i:Nat}{v:Value}[h:aw f0.cells i v]:aw (aM.mk f0 f1 f2 f3 f4).cells i v:=by rw[aM.head];exact oM _ h
theorem HB(x:iB):(aE (gZ x))[((0:Nat):Int).toNat]? =some (.int .u8 1):=rfl
theorem sK(x:iB):(gZ x).drop 1=eV x:=rfl
theorem rJ(x:iB):0<(gZ x).length:=Nat.succ_pos _
def O0(y:du)(x:iB)(z:du):Prop:=z.Ok/\((dJ y.w.slot x=true/\Im y x z)∨(dJ y.w.slot x=false/\z=y))
attribute [local irreducible] fH dS bN jt wB eV gZ cU dJ
theorem GH{w0:World}{H:List SA}{q sb p bp:Nat}{lo:Option Addr}{fu:Bool}{y:du}(hy:y.Ok)(hsl:0<=y.w.slot/\y.w.slot<=100000)(hls:y.aT.length<=1000)(hld:y.ds.length<=1000){b:BS}[rb:dT w0 H (.slice b.a b.l.length b.c) b.l]{x:iB}(hb:b.l=gZ x)(hx:ib x):CT prog w0 (bE q sb p lo bp fu::du.H y sb H) 27 [.pointer (some ⟨q,0,none⟩),.slice b.a b.l.length b.c] (α:=du) (fun _=> .tuple #[]) (fun z=>pu (O0 y x z)::bE q sb p lo bp fu::du.H z sb H):=by
 have hbl:0<b.l.length:=by rw[hb];exact rJ x
 refine aiF ?_;refine yC ?_ ?_<;>intro h10 p10<;>try simp only at p10
 ·exact absurd p10 (by have:=rJ x;rw[←hb]at this;omega)
 refine gG ?_;refine zq (bj rfl rfl om (by rw[hb];simpa using rJ x)) rfl ?_;refine zq (bC (.int .u8 1) rfl (by rw[hb];exact HB x)) rfl ?_;refine gG ?_;refine Zb ?_;refine Ze ?_;refine zq (ki 1 rfl rfl om) rfl ?_;refine ze rfl (zc (uI (l:=b.l.drop 1) (x:=x) (by rw[hb,sK]) hx) rfl (fun x35=>?_));refine aV (fun h35=>?_);have hsm:x35.1.batch.l.length<=65536/\x35.1.parts.ls.length<=1000/\∀z∈x35.1.parts.ls,z.l.length<=4294967296:=⟨by have:=hx.batch;rw[←h35]at this;exact this,by have h2:=hx.parts;rw[←h35]at h2;have h3:(x35.1.parts.ls.map BS.l).length<=16:=h2;rw[WZ]at h3;omega,(vA hx h35).2.2⟩;refine gG ?_;refine ze rfl (an (fun b6=>?_));refine aag ?_;refine dw (bE q sb p lo bp fu::aF sb (.cells y.v.cells 87 (0,0))::aF b6 (.cells x35.1.cells 50 (0,0))::H) [(0,true),(1,true),(2,true),(3,true),(4,true),(5,true),(6,true),(7,true),(8,true),(9,true),(10,true),(11,true),(12,false),(13,true)] (fun hns0=>?_);refine ads ?_;refine aiO ?_;refine aeQ ?_;refine yD 40 ?_ ?_<;>intro h40 p40<;>try simp only at p40
 ·refine bB hns0 rfl rfl rfl h40 (zm (.pointer _) rfl) rfl ?_;refine ahW ?_;refine aek ?_;refine ahX ?_;refine ahW ?_;refine aek ?_;refine aek ?_;refine ahX ?_;refine bB hns0 rfl rfl rfl h40 (zn rfl rfl) rfl ?_;refine lF rfl rfl rfl h40 rfl (zc (u4 (behind:=y.w.slot) (n:=x35.1.n) (h:=x35.1.hash) (b:=x35.1.batch) (p:=x35.1.parts) (by have:=hsm.1;omega) hsm.2.1 (fun z hz=>by have:=hsm.2.2 z hz;omega)) rfl (fun x50=>⟨SB,?_⟩));rw[show ah.abs (ah.mk x35.1.n x35.1.hash x35.1.batch x35.1.parts)=x from h35];refine zd hns0 rfl (zT (.bool _) rfl h40 rfl) rfl ?_;refine gz ?_;refine gG ?_;refine yC ?_ ?_<;>intro h51 p51<;>try simp only at p51
  ·refine dw (bE q sb p lo bp fu::aF b6 (.cells x35.1.cells 50 (0,0))::H) [(0,true),(1,true),(2,true),(3,true),(4,true),(5,false)] (fun hns1=>?_);refine ahN ?_;refine zd hns1 rfl (aN rfl) rfl ?_;refine zd hns1 rfl (zf 0 rfl rfl) rfl ?_;refine zd hns1 rfl (zl rfl) rfl ?_;refine aiH ?_;refine gX (fun w hw=>(SB w hw:St w0 (du.H y sb (bE q sb p lo bp fu::aF b6 (.cells x35.1.cells 50 (0,0))::dX x35.2 (Deep.leads x35.1)::H)) w)) ?_;refine cX rfl rfl (zc (MM (sp:=sb) (y:=y) hy hsl hls hld (n:=x35.1.n) (h:=x35.1.hash) (b:=x35.1.batch) (p:=x35.1.parts) (by have:=hsm.1;omega) (by have:=hsm.2.1;omega) hsm.2.2) rfl (fun x57=>⟨SB,?_⟩));refine im (fun h57=>?_);refine gz ?_;refine gG ?_;exact zX x57.1 [] results27 trivial rfl (fun w hw=>(SB w hw:St w0 (bE q sb p lo bp fu::du.H x57.1 sb H) w).aC ⟨h57.1,.inl ⟨h51,by rw[show ah.abs (ah.mk x35.1.n x35.1.hash x35.1.batch x35.1.parts)=x from h35]at h57;exact h57.2⟩⟩)
  refine gG ?_;exact zX y [] results27 trivial rfl (fun w hw=>(SB w hw:St w0 (bE q sb p lo bp fu::du.H y sb H) w).aC ⟨hy,.inr ⟨h51,rfl⟩⟩)
 cases h40
end
section
variable {w0:World} {H:List SA} {sb q p bp:Nat} {y:du} {lo:Option Addr} {fu:Bool} {v:aM} {n:Int}
theorem KJ{T:Type}[Deep T]{w:World}{f g:List Nat}{v:T}{l:List T}(h:St w0 (dX f (dD l)::dX g (Deep.leads v)::H) w):St w0 (dX (f++g) (dD (l++[v]))::H) w:=by
 have h1:=h.j3;rw[DZ,show dD [v]=Deep.leads v from by simp[dD,iy.app,iy.nil]];exact h1
theorem IZ{T:Type}[Deep T]{fp:List Nat}{l:List T}{v:T}(h:v∈l):Rd w0 (dX fp (dD l)::H) v:=⟨(Ae.own (vs:=l)).ok v h⟩
attribute [local irreducible] fH dS bN jt wB eV gZ cU dJ
theorem Hk:CT prog w0 (aF sb (.cells (v:aM).cells 87 (0,0))::H) 51 [.pointer (some ⟨sb,0,none⟩)] (α:=Unit) (fun _=> .agg v.world.cells) (fun _=>aF sb (.cells (v:aM).cells 87 (0,0))::H):=by
 refine aiA ?_;refine ze rfl (an (fun b2=>gG ?_));refine Zx ?_;refine Zb ?_;refine aag ?_;exact afY
theorem JO:CT prog w0 (bE q sb p lo bp fu::aF sb (.cells (v:aM).cells 87 (0,0))::H) 17 [.pointer (some ⟨q,0,none⟩)] (α:=Unit) (fun _=> .agg v.world.cells) (fun _=>bE q sb p lo bp fu::aF sb (.cells (v:aM).cells 87 (0,0))::H):=by
 refine aiC ?_;refine ze rfl (an (fun b2=>gG ?_));refine Zn ?_;refine Zb ?_;refine aU sb ?_;refine ze rfl (zc (Hk (sb:=sb) (v:=v)) rfl (fun x10=>?_));refine aag ?_;exact afZ
theorem F6:CT prog w0 (aF sb (.cells (v:aM).cells 87 (0,0))::H) 52 [.pointer (some ⟨sb,0,none⟩)] (α:=Unit) (fun _=> .int .i64 v.saved) (fun _=>aF sb (.cells (v:aM).cells 87 (0,0))::H):=by
 refine aiB ?_;refine Zx ?_;refine Zb ?_;refine ZO ?_;exact aho
theorem Ij:CT prog w0 (bE q sb p lo bp fu::aF sb (.cells (v:aM).cells 87 (0,0))::H) 18 [.pointer (some ⟨q,0,none⟩)] (α:=Unit) (fun _=> .int .i64 v.saved) (fun _=>bE q sb p lo bp fu::aF sb (.cells (v:aM).cells 87 (0,0))::H):=by
 refine aiD ?_;refine Zn ?_;refine Zb ?_;refine aU sb ?_;refine ze rfl (zc (F6 (sb:=sb) (v:=v)) rfl (fun x9=>gG ?_));exact ahp
theorem Mn{a:Option Addr}{c:Nat}{ls:List ah}[rc:gy w0 H (.slice a ls.length c) 35 (ls.flatMap ah.list)](hrd:∀x∈ls,Rd w0 H x)(hsm:∀x∈ls,j0 x)(hn:ls.length<=1000):CT prog w0 (H) 173 [.slice a ls.length c,.func (.func 54) #[] #[]] (α:=(AC×List ah)×List Nat) (fun y=> .slice y.1.1.a y.1.2.length y.1.1.c) (fun y=>pu (y.1.2.map ah.abs=ls.map ah.abs)::oG y.1.1.a y.1.1.c y.1.2::dX y.2 (dD y.1.2)::H):=by
 refine al func173 rfl ntmps173 rfl (gG ?_);refine bH [5,7,10,11,12,13,14,15,16,17,18,19,20] [10,5] (fun us H'=>∃(k:Nat)(a5:Option Addr)(c5:Nat)(ms:List ah)(fp:List Nat),us=[.int .i64 (k:Int),.slice a5 ms.length c5]/\oG a5 c5 ms::dX fp (dD ms)::H=H'/\k<=ls.length/\(ms.map ah.abs=(ls.map ah.abs).take k)) (fun us=>match us with| .int _ i::_=>ls.length-i.toNat|_=>0) ⟨0,none,0,[],[],rfl,rfl,om,rfl⟩ (fun w hw=>((SB w hw:St w0 H w).iw).cT 50 35) ?_;rintro τ0 _ _ ⟨k,a5,c5,ms,fp,rfl,rfl,hk0,hms⟩ _;have hml:ms.length=k:=aex;refine gG ?_;refine yC ?_ ?_<;>intro h11 p11
 ·have hk:k<ls.length:=om;refine gG ?_;refine aaH ?_;refine ze rfl (an (fun b7=>?_));refine aag ?_;have rdk:Rd w0 H ls[k]:=hrd _ (W1 hk);refine ze rfl (uL (argv:=[_]) (caps:=[]) (zu (n:=ls[k].n) (h:=ls[k].hash) (b:=ls[k].batch) (p:=ls[k].parts) agH (hsm _ (W1 hk)).2.1 (hsm _ (W1 hk)).2.2) rfl rfl (fun x17=>?_));refine aV (fun h17=>?_);refine ze rfl (cr (m:=([x17.1]:List ah).length) [.agg x17.1.cells] (([x17.1]:List ah).flatMap ah.list) rfl rfl rfl rfl aes rfl rfl (fun a18 c18=>?_));refine ze rfl (cp ah.list (sv:= .slice _ _ _) (xv:= .slice _ _ _) (xs:=ms) (ys:=[x17.1]) ah.ae ah.aS rfl rfl so rfl rfl (fun a19 c19=>gA ?_));exact xl ⟨k+1,a19,c19,ms++[x17.1],fp++x17.2,rfl,rfl,om,by rw[Xi,hms,fR _ _ abf];simp only[Xt,X6,XP];exact congrArg (fun z=>_++[z]) h17⟩ (hH:=(fun w hw=>(cJ.st inferInstance w (KJ (SB w hw:St w0 (dX fp (dD ms)::dX x17.2 (Deep.leads x17.1)::oG a19 c19 (ms++[x17.1])::H) w)):St w0 (oG a19 c19 (ms++[x17.1])::dX (fp++x17.2) (dD (ms++[x17.1]))::H) w)))
 obtain rfl:k=ls.length:=om;rw[W7 (i:=ls.length) sm]at hms;refine gG ?_;refine Za ?_;exact zX ((⟨a5,c5⟩,ms),fp) [_] results173 ⟨rfl,trivial⟩ rfl (fun w hw=>(SB w hw:St w0 (oG a5 c5 ms::dX fp (dD ms)::H) w).aC hms)
theorem HE(hy:y.Ok):CT prog w0 (du.H y sb H) 96 [.pointer (some ⟨sb,0,none⟩)] (α:=ah×List Nat) (fun z=> .agg z.1.cells) (fun z=>pu (z.1.abs=y.last.abs)::dX z.2 (Deep.leads z.1)::du.H y sb H):=by
 refine al func96 rfl ntmps96 rfl (gG ?_);refine ze rfl (an (fun b2=>gG ?_));refine Zx ?_;refine Zb ?_;refine ZE ?_;have rdl:Rd w0 (dX y.fp (dD y.all)::H) y.last:=IZ hy.last;refine cu (aF b2 (.cells ah.zero.cells 50 (0,0))::du.H y sb H) ?_;refine ze rfl (zc (zu (n:=y.last.n) (h:=y.last.hash) (b:=y.last.batch) (p:=y.last.parts) (by have:=(hy.small _ hy.last).1;omega) (hy.small _ hy.last).2.1 (hy.small _ hy.last).2.2) rfl (fun x10=>?_));refine aV (fun h10=>?_);refine aag ?_;exact zX x10 [_] results96 ⟨⟨_,rfl,ak rfl⟩,trivial⟩ rfl (fun w hw=>(SB w hw:St w0 (dX x10.2 (Deep.leads x10.1)::du.H y sb H) w).aC h10)
theorem Gx(hy:y.Ok)(hn:y.aT.length<=1000):CT prog w0 (du.H y sb H) 93 [.pointer (some ⟨sb,0,none⟩)] (α:=(AC×List ah)×List Nat) (fun z=> .slice z.1.1.a z.1.2.length z.1.1.c) (fun z=>pu (z.1.2.map ah.abs=y.aT.map ah.abs)::oG z.1.1.a z.1.1.c z.1.2::dX z.2 (dD z.1.2)::du.H y sb H):=by
 refine al func93 rfl ntmps93 rfl (gG ?_);refine Zx ?_;refine Zb ?_;refine Zp ?_;refine ze rfl (zc (Mn (ls:=y.aT) (fun x hx=>by have:=IZ (w0:=w0) (H:=H) (fp:=y.fp) (hy.aT x hx);infer_instance) (fun x hx=>hy.small x (hy.aT x hx)) hn) rfl (fun x9=>?_));refine aV (fun h9=>?_);refine gG ?_;exact zX x9 [_] results93 ⟨rfl,trivial⟩ rfl (fun w hw=>(SB w hw:St w0 (oG x9.1.1.a x9.1.1.c x9.1.2::dX x9.2 (dD x9.1.2)::du.H y sb H) w).aC h9)
def w9(y:du)(n:Int):Vector UInt8 32×Bool:=if n<y.saved∨y.w.slot<n then(zeroV 32,false)else(y.ds.getD (n-y.saved).toNat (zeroV 32),true)
theorem zZ(h:n<y.saved∨y.w.slot<n):w9 y n=(zeroV 32,false):=if_pos h
theorem E7(h:¬(n<y.saved∨y.w.slot<n))(hk:(n-y.saved).toNat<y.ds.length):w9 y n=(y.ds[(n-y.saved).toNat],true):=by
 unfold w9;rw[if_neg h,Xy,WW hk];rfl
theorem Eu(h0:0<=y.saved/\y.saved<=100000)(h1:y.w.slot<=100000)(hdl:(y.ds.length:Int)=y.w.slot-y.saved+1):CT prog w0 (du.H y sb H) 97 [.pointer (some ⟨sb,0,none⟩),.int .i64 n] (α:=Unit) (fun _=> .tuple #[.agg (aX (w9 y n).1).toArray,.bool (w9 y n).2]) (fun _=>du.H y sb H):=by
 refine al func97 rfl ntmps97 rfl (gG ?_);refine ze rfl (an (fun b4=>gG ?_));refine Zx ?_;refine yS 8 ?_ ?_<;>intro h8 p8
 ·
  cases h8
 refine gG ?_;refine ZO ?_;refine yS 16 ?_ ?_<;>intro h16 p16<;>refine gG ?_
 ·refine Zc ?_;refine acD ?_;refine aag ?_;rw[zZ om];exact adw
 refine yC ?_ ?_<;>intro h24 p24
 ·refine gG ?_;refine acD ?_;refine aag ?_;rw[zZ om];exact adw
 have hkn:¬(n<y.saved∨y.w.slot<n):=om;have hk:(n-y.saved).toNat<y.ds.length:=om;refine gG ?_;refine dw (aF sb (.cells y.v.cells 87 (0,0))::Ky y.da y.dc y.ds::H) [(0,true),(1,true),(2,true),(3,true),(4,true),(5,true),(6,true),(7,true),(8,true),(9,true),(10,true),(11,true),(12,false),(13,true)] (fun hns0=>?_);refine zd hns0 rfl (zm (.pointer _) rfl) rfl (zd hns0 rfl (aN rfl) rfl (zd hns0 rfl (zf 104 rfl rfl) rfl (zd hns0 rfl (zl rfl) rfl (zd hns0 rfl (zm (.int .i64 _) rfl) rfl (zd hns0 rfl (zm (.pointer _) rfl) rfl (zd hns0 rfl (aN rfl) rfl (zd hns0 rfl (zf 105 rfl rfl) rfl ?_)))))));refine afL ?_
 first|refine zd hns0 rfl (jG rfl rfl om om) rfl ?_|refine zd hns0 rfl (iq rfl rfl) rfl ?_
 refine zd hns0 rfl (bn rfl rfl om om) rfl (zd hns0 rfl (bI (ek 32 (aX y.ds[(n-y.saved).toNat]) rfl (de _ 32 (fun x=>aB x) y.ds _ hk) (aB _) dc) (show Value.agg (aX y.ds[(n-y.saved).toNat]).toArray=_ from rfl)) rfl ?_);refine aaE ?_;rw[E7 hkn hk];exact adw
theorem s5(h0:0<=y.saved/\y.saved<=100000)(h1:y.w.slot<=100000)(hdl:(y.ds.length:Int)=y.w.slot-y.saved+1):CT prog w0 (bE q sb p lo bp fu::du.H y sb H) 42 [.pointer (some ⟨q,0,none⟩),.int .i64 n] (α:=Unit) (fun _=> .tuple #[.agg (aX (w9 y n).1).toArray,.bool (w9 y n).2]) (fun _=>bE q sb p lo bp fu::du.H y sb H):=by
 refine al func42 rfl ntmps42 rfl (gG ?_);refine ze rfl (an (fun b4=>gG ?_));refine Zn ?_;refine Zb ?_;refine cu (du.H y sb (aF b4 (.cells (aX (zeroV 32)).toArray 46 (0,0))::bE q sb p lo bp fu::H)) ?_;refine ze rfl (zc (Eu (sb:=sb) (y:=y) h0 h1 hdl) rfl (fun x14=>gG ?_));refine aag ?_;exact zX () [_,_] results42 ⟨⟨_,rfl,ak rfl⟩,rfl,trivial⟩ rfl SB
theorem KT(hy:y.Ok):CT prog w0 (bE q sb p lo bp fu::du.H y sb H) 41 [.pointer (some ⟨q,0,none⟩)] (α:=ah×List Nat) (fun z=> .agg z.1.cells) (fun z=>pu (z.1.abs=y.last.abs)::dX z.2 (Deep.leads z.1)::bE q sb p lo bp fu::du.H y sb H):=by
 refine al func41 rfl ntmps41 rfl (gG ?_);refine ze rfl (an (fun b2=>gG ?_));refine Zn ?_;refine Zb ?_;refine cu (du.H y sb (aF b2 (.cells ah.zero.cells 50 (0,0))::bE q sb p lo bp fu::H)) ?_;refine ze rfl (zc (HE (sb:=sb) (y:=y) hy) rfl (fun x10=>?_));refine aV (fun h10=>?_);refine aag ?_;exact zX x10 [_] results41 ⟨⟨_,rfl,ak rfl⟩,trivial⟩ rfl (fun w hw=>(SB w hw:St w0 (dX x10.2 (Deep.leads x10.1)::bE q sb p lo bp fu::du.H y sb H) w).aC h10)
theorem Iq(hy:y.Ok)(hn:y.aT.length<=1000):CT prog w0 (bE q sb p lo bp fu::du.H y sb H) 38 [.pointer (some ⟨q,0,none⟩)] (α:=(AC×List ah)×List Nat) (fun z=> .slice z.1.1.a z.1.2.length z.1.1.c) (fun z=>pu (z.1.2.map ah.abs=y.aT.map ah.abs)::oG z.1.1.a z.1.1.c z.1.2::dX z.2 (dD z.1.2)::bE q sb p lo bp fu::du.H y sb H):=by
 refine al func38 rfl ntmps38 rfl (gG ?_);refine Zn ?_;refine Zb ?_;refine cu (du.H y sb (bE q sb p lo bp fu::H)) ?_;refine ze rfl (zc (Gx (sb:=sb) (y:=y) hy hn) rfl (fun x9=>?_));refine aV (fun hsl=>?_);refine gG ?_;exact zX x9 [_] results38 ⟨rfl,trivial⟩ rfl (fun w hw=>(SB w hw:St w0 (oG x9.1.1.a x9.1.1.c x9.1.2::dX x9.2 (dD x9.1.2)::bE q sb p lo bp fu::du.H y sb H) w).aC hsl)
end
end Go.Proofs.YtmbfimckmfnnjaaGreatDoor
