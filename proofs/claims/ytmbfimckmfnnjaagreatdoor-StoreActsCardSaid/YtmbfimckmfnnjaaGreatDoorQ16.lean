/- Steps of the proof of a law. -/
import Derived.Test.YtmbfimckmfnnjaaGreatDoorQ13
import Derived.Test.YtmbfimckmfnnjaaGreatDoorQ14
import Derived.Test.YtmbfimckmfnnjaaGreatDoorQ15
set_option maxRecDepth 100000
set_option maxHeartbeats 1000000
set_option linter.unusedSimpArgs false
set_option linter.unusedVariables false
namespace Go.Proofs.YtmbfimckmfnnjaaGreatDoor
open Go.RowKit Go.Sx Go.Proofs.Tryz
section
structure fD where
 aG:Int
 seq:Int
 kind:Int
 key:Int
 a:Int
 b:Int
 sig:List UInt8
@[reducible] def fD.zero:fD:=⟨0,0,0,0,0,0,[]⟩
def aJ.abs(r:aJ):fD:=⟨r.aG,r.seq,r.op.kind,r.op.key,r.op.a,r.op.b,r.sig.l⟩
def aK(c kind key a b:Int):Bool:=
 if c=0 then decide (kind=6/\key=0/\b=0/\0<=a/\a<=65535)
 else decide ((0<=key/\key<16)/\(((kind=1∨kind=5)/\a=0/\b=0)∨((kind=2∨kind=3)/\b=0)∨kind=4))
def bh(r:fD):Bool:=decide ((0<=r.aG/\r.aG<6)/\(1<=r.seq/\r.seq<=8)/\aK r.aG r.kind r.key r.a r.b=true/\r.sig.length<=1000)
def db(x:Int):Prop:= -9223372036854775808<=x/\x<=9223372036854775807
def fC(l:List UInt8):Int×fD:=
 if l.length<4 then(1,.zero)else if (aq (l.drop 4)).1≠0 then((aq (l.drop 4)).1,.zero)
 else if (aq (l.drop (4+(aq (l.drop 4)).2.2))).1≠0 then((aq (l.drop (4+(aq (l.drop 4)).2.2))).1,.zero)
 else(if 4+(aq (l.drop 4)).2.2+(aq (l.drop (4+(aq (l.drop 4)).2.2))).2.2<l.length then 2 else 0,
   ⟨(l.getD 0 0).toNat,(l.getD 1 0).toNat,(l.getD 2 0).toNat,(l.getD 3 0).toNat,dj (aq (l.drop 4)).2.1,dj (aq (l.drop (4+(aq (l.drop 4)).2.2))).2.1,[]⟩)
def gP(l:List UInt8):Int×fD:=
 if (au l 100).1≠0 then((au l 100).1,.zero)else if (fC (au l 100).2.1).1≠0 then((fC (au l 100).2.1).1,.zero)
 else if (au (l.drop (au l 100).2.2) 1000).1≠0 then((au (l.drop (au l 100).2.2) 1000).1,.zero)
 else if (au l 100).2.2+(au (l.drop (au l 100).2.2) 1000).2.2<l.length then(2,.zero)
 else if bh {(fC (au l 100).2.1).2 with sig:=(au (l.drop (au l 100).2.2) 1000).2.1}=false then(15,.zero)
 else(0,{(fC (au l 100).2.1).2 with sig:=(au (l.drop (au l 100).2.2) 1000).2.1})
theorem gF:db 0:=⟨dc,dc⟩
theorem xO(l:List UInt8):db (fC l).2.a/\db (fC l).2.b:=by
 unfold fC
 repeat' split
 all_goals first|exact⟨gF,gF⟩|exact⟨k7 (bT _).2.2,k7 (bT _).2.2⟩
theorem vJ(l:List UInt8):db (gP l).2.a/\db (gP l).2.b:=by
 have h:=xO (au l 100).2.1;unfold gP
 repeat' split
 all_goals first|exact⟨gF,gF⟩|exact h
attribute [local irreducible] fH fF
theorem Fc{w0:World}{H:List SA}{c:Int}{o:gn}:CT prog w0 (H) 263 [.int .i64 c,.agg o.cells] (α:=Unit) (fun _=> .bool (aK c o.kind o.key o.a o.b)) (fun _=>H):=by
 refine al func263 rfl ntmps263 rfl (gG ?_);refine ze rfl (aZ rfl (fun b3=>gG ?_));refine yC ?_ ?_<;>intro h6 p6<;>refine gG ?_
 ·refine yS 10 ?_ ?_<;>intro h10 p10<;>refine gG ?_
  ·refine yS 15 ?_ ?_<;>intro h15 p15<;>refine gG ?_
   ·refine yS 20 ?_ ?_<;>intro h20 p20<;>refine gG ?_
    ·refine yS 25 ?_ ?_<;>intro h25 p25<;>refine gG ?_
     ·exact aao
     exact aao
    exact aao
   exact aao
  exact aao
 refine yS 33 ?_ ?_<;>intro h33 p33<;>refine gG ?_
 ·refine Zc ?_;exact aao
 refine yC ?_ ?_<;>intro h37 p37<;>refine gG ?_
 ·exact aao
 refine yC ?_ ?_<;>intro h40 p40<;>refine gG ?_
 ·refine aI rfl h40 ?_;refine gG ?_;refine yC ?_ ?_<;>intro h50 p50<;>refine gG ?_
  ·exact aao
  exact aao
 refine yC ?_ ?_<;>intro h40 p40<;>refine gG ?_
 ·refine yC ?_ ?_<;>intro h50 p50<;>refine gG ?_
  ·exact aao
  exact aao
 refine yC ?_ ?_<;>intro h43 p43<;>refine gG ?_
 ·refine aI rfl h43 ?_;refine gG ?_;refine Zs ?_;exact aao
 refine yC ?_ ?_<;>intro h43 p43<;>refine gG ?_
 ·refine Zs ?_;exact aao
 refine yC ?_ ?_<;>intro h46 p46<;>refine gG ?_
 ·refine Zs ?_;refine Zs ?_;exact aao
 refine Zs ?_;refine Zs ?_;refine Zs ?_;exact aao
theorem yz{w0:World}{H:List SA}{r:aJ}:CT prog w0 (H) 262 [.agg r.cells] (α:=Unit) (fun _=> .bool (bh r.abs)) (fun _=>H):=by
 refine al func262 rfl ntmps262 rfl (gG ?_);refine ze rfl (aZ rfl (fun b1=>gG ?_));refine yS 6 ?_ ?_<;>intro h6 p6<;>refine gG ?_
 ·refine yS 11 ?_ ?_<;>intro h11 p11<;>refine gG ?_
  ·refine yS 16 ?_ ?_<;>intro h16 p16<;>refine gG ?_
   ·refine yS 21 ?_ ?_<;>intro h21 p21<;>refine gG ?_
    ·refine ze rfl (zc (Fc (c:=r.aG) (o:=r.op)) rfl (fun x26=>gG ?_));refine yS 28 ?_ ?_<;>intro h28 p28<;>refine gG ?_
     ·exact aav
     exact aav
    exact aav
   exact aav
  exact aav
 exact aav
end
section
attribute [local irreducible] fH fF
theorem Lq{w0:World}{H:List SA}{a:Option Addr}{l:List UInt8}{c:Nat}[hr:dT w0 H (.slice a l.length c) l](hl:l.length<=4294967296):CT prog w0 (H) 261 [.slice a l.length c] (α:=aJ) (fun y=> .tuple #[.agg y.cells,.int .i64 (fC l).1]) (fun y=>pu (y.abs=(fC l).2/\y.sig=⟨none,0,[]⟩)::H):=by
 refine al func261 rfl ntmps261 rfl (gG ?_);refine ze rfl (an (fun b2=>gG ?_));refine ze rfl (zc (lD hl) rfl (fun x15=>?_));refine aV (fun h15=>?_);refine gG ?_;refine ze rfl (an (fun b5=>gG ?_));refine ZM ?_;refine gD (cc ?_);refine gG ?_;refine Ze ?_;refine ZG ?_;refine aU x15.1 ?_;refine ze rfl (zc (kL (b:=x15.2) (k:=0) om afk) rfl (fun x28=>?_));refine aV (fun h28=>?_);obtain⟨u0,q0,e0⟩:=x28;simp only[N5]at h28;have hb0:=u0.toNat_lt;refine gG ?_;refine yC ?_ ?_<;>intro h32 p32<;>try simp only at p32
 ·have hs0:x15.2.l.length<=0/\e0=1:=by
   rcases h28 with⟨-,-,-,h4⟩|⟨h1,-,-,h4⟩
   · (try simp only at h32);omega
   · exact⟨h1,h4⟩
  obtain⟨hs0,rfl⟩:=hs0;refine gG ?_;refine Zg ?_;refine aag ?_;refine Zk ?_;have e:fC l=(1,.zero):=if_pos ahD;rw[e];exact aaZ
 obtain⟨hk0,hv0,ha0⟩:0<x15.2.l.length/\u0=x15.2.l.getD 0 0/\q0=0+1:=by
  rcases h28 with⟨h1,h2,h3,-⟩|⟨-,-,-,h4⟩
  · exact⟨h1,h2,h3⟩
  · (try simp only at h32);omega
 subst ha0;refine gG ?_;refine zq (bF rfl rfl underlying3 aci aci) rfl ?_;refine gG ?_;refine aaI ?_;refine Zf ?_;refine Ze ?_;refine ZG ?_;refine aU x15.1 ?_;refine ze rfl (zc (kL (b:=x15.2) (k:=0+1) om afk) rfl (fun x28=>?_));refine aV (fun h28=>?_);obtain⟨u1,q1,e1⟩:=x28;simp only[N5]at h28;have hb1:=u1.toNat_lt;refine gG ?_;refine yC ?_ ?_<;>intro h32 p32<;>try simp only at p32
 ·have hs1:x15.2.l.length<=1/\e1=1:=by
   rcases h28 with⟨-,-,-,h4⟩|⟨h1,-,-,h4⟩
   · (try simp only at h32);omega
   · exact⟨h1,h4⟩
  obtain⟨hs1,rfl⟩:=hs1;refine gG ?_;refine Zg ?_;refine aag ?_;refine Zk ?_;have e:fC l=(1,.zero):=if_pos ahD;rw[e];exact aaZ
 obtain⟨hk1,hv1,ha1⟩:1<x15.2.l.length/\u1=x15.2.l.getD 1 0/\q1=1+1:=by
  rcases h28 with⟨h1,h2,h3,-⟩|⟨-,-,-,h4⟩
  · exact⟨h1,h2,h3⟩
  · (try simp only at h32);omega
 subst ha1;refine gG ?_;refine zq (bF rfl rfl underlying3 aci aci) rfl ?_;refine gG ?_;refine aaI ?_;refine Zf ?_;refine Ze ?_;refine ZG ?_;refine aU x15.1 ?_;refine ze rfl (zc (kL (b:=x15.2) (k:=1+1) om afk) rfl (fun x28=>?_));refine aV (fun h28=>?_);obtain⟨u2,q2,e2⟩:=x28;simp only[N5]at h28;have hb2:=u2.toNat_lt;refine gG ?_;refine yC ?_ ?_<;>intro h32 p32<;>try simp only at p32
 ·have hs2:x15.2.l.length<=2/\e2=1:=by
   rcases h28 with⟨-,-,-,h4⟩|⟨h1,-,-,h4⟩
   · (try simp only at h32);omega
   · exact⟨h1,h4⟩
  obtain⟨hs2,rfl⟩:=hs2;refine gG ?_;refine Zg ?_;refine aag ?_;refine Zk ?_;have e:fC l=(1,.zero):=if_pos ahD;rw[e];exact aaZ
 obtain⟨hk2,hv2,ha2⟩:2<x15.2.l.length/\u2=x15.2.l.getD 2 0/\q2=2+1:=by
  rcases h28 with⟨h1,h2,h3,-⟩|⟨-,-,-,h4⟩
  · exact⟨h1,h2,h3⟩
  · (try simp only at h32);omega
 subst ha2;refine gG ?_;refine zq (bF rfl rfl underlying3 aci aci) rfl ?_;refine gG ?_;refine aaI ?_;refine Zf ?_;refine Ze ?_;refine ZG ?_;refine aU x15.1 ?_;refine ze rfl (zc (kL (b:=x15.2) (k:=2+1) om afk) rfl (fun x28=>?_));refine aV (fun h28=>?_);obtain⟨u3,q3,e3⟩:=x28;simp only[N5]at h28;have hb3:=u3.toNat_lt;refine gG ?_;refine yC ?_ ?_<;>intro h32 p32<;>try simp only at p32
 ·have hs3:x15.2.l.length<=3/\e3=1:=by
   rcases h28 with⟨-,-,-,h4⟩|⟨h1,-,-,h4⟩
   · (try simp only at h32);omega
   · exact⟨h1,h4⟩
  obtain⟨hs3,rfl⟩:=hs3;refine gG ?_;refine Zg ?_;refine aag ?_;refine Zk ?_;have e:fC l=(1,.zero):=if_pos ahD;rw[e];exact aaZ
 obtain⟨hk3,hv3,ha3⟩:3<x15.2.l.length/\u3=x15.2.l.getD 3 0/\q3=3+1:=by
  rcases h28 with⟨h1,h2,h3,-⟩|⟨-,-,-,h4⟩
  · exact⟨h1,h2,h3⟩
  · (try simp only at h32);omega
 subst ha3;refine gG ?_;refine zq (bF rfl rfl underlying3 aci aci) rfl ?_;refine gG ?_;refine aaI ?_;refine Zf ?_;refine Zb ?_;refine Zl ?_;refine zq (ck #[(.pointer _),(.pointer _)] underlying374 rfl rfl rfl) rfl ?_;refine gG ?_;refine gD (cc ?_);refine gG ?_;refine Ze ?_;refine Z1 ?_;refine aU x15.1 ?_;refine ze rfl (zc (rm (b:=x15.2) (k:=3+1) om afk) rfl (fun x50=>gG ?_));refine yC ?_ ?_<;>intro h54 p54<;>try simp only at p54
 ·refine gG ?_;refine Zg ?_;refine aag ?_;refine Zk ?_;have e:fC l=((aq (x15.2.l.drop (3+1))).1,.zero):=by rw[←h15];unfold fC;rw[if_neg om,if_pos p54]
  rw[e];exact aaZ
 have z1:(aq (x15.2.l.drop (3+1))).1=0:=om;rw[if_pos z1];refine gG ?_;refine aaI ?_;refine Zf ?_;refine Ze ?_;refine Z1 ?_;refine aU x15.1 ?_;refine ze rfl (zc (rm (b:=x15.2) (k:=(3+1+(aq (x15.2.l.drop (3+1))).2.2)) (by have:=(bT (x15.2.l.drop (3+1))).2.1;rw[Xe]at this;omega) afk) rfl (fun x50=>gG ?_));refine yC ?_ ?_<;>intro h54 p54<;>try simp only at p54
 ·refine gG ?_;refine Zg ?_;refine aag ?_;refine Zk ?_;have e:fC l=((aq (x15.2.l.drop (3+1+(aq (x15.2.l.drop (3+1))).2.2))).1,.zero):=by rw[←h15];unfold fC;rw[if_neg om,if_neg (by simpa using z1),if_pos p54]
  rw[e];exact aaZ
 have z2:(aq (x15.2.l.drop (3+1+(aq (x15.2.l.drop (3+1))).2.2))).1=0:=om;rw[if_pos z2];refine gG ?_;refine aaI ?_;refine Zf ?_;refine Zb ?_;refine Zl ?_;refine dw (aF b5 (.cells (aJ.mk (u0.toNat:Int) (u1.toNat:Int) ⟨(u2.toNat:Int),(u3.toNat:Int),dj (aq (x15.2.l.drop (3+1))).2.1,dj (aq (x15.2.l.drop (3+1+(aq (x15.2.l.drop (3+1))).2.2))).2.1⟩ ⟨none,0,[]⟩).cells 250 (0,0))::H) [(0,true),(1,true),(2,false),(3,false),(4,true)] (fun hns0=>?_);refine gA ?_;refine km x15.1 ?_;refine cX rfl rfl (zc (nU (b:=x15.2) (k:=(3+1+(aq (x15.2.l.drop (3+1))).2.2)+(aq (x15.2.l.drop (3+1+(aq (x15.2.l.drop (3+1))).2.2))).2.2) (by have h1:=(bT (x15.2.l.drop (3+1))).2.1;have h2:=(bT (x15.2.l.drop (3+1+(aq (x15.2.l.drop (3+1))).2.2))).2.1;rw[Xe]at h1 h2;omega) afk) rfl (fun x63=>⟨SB,?_⟩));refine aaE ?_;have e:fC l=((if (3+1+(aq (x15.2.l.drop (3+1))).2.2)+(aq (x15.2.l.drop (3+1+(aq (x15.2.l.drop (3+1))).2.2))).2.2<x15.2.l.length then(2:Int)else 0),(aJ.mk (u0.toNat:Int) (u1.toNat:Int) ⟨(u2.toNat:Int),(u3.toNat:Int),dj (aq (x15.2.l.drop (3+1))).2.1,dj (aq (x15.2.l.drop (3+1+(aq (x15.2.l.drop (3+1))).2.2))).2.1⟩ ⟨none,0,[]⟩).abs):=by
  rw[←h15];unfold fC;rw[if_neg om,if_neg (by simpa using z1),if_neg (by simpa using z2),hv0,hv1,hv2,hv3];rfl
 rw[e];exact zX (aJ.mk (u0.toNat:Int) (u1.toNat:Int) ⟨(u2.toNat:Int),(u3.toNat:Int),dj (aq (x15.2.l.drop (3+1))).2.1,dj (aq (x15.2.l.drop (3+1+(aq (x15.2.l.drop (3+1))).2.2))).2.1⟩ ⟨none,0,[]⟩) [_,_] results261 ⟨⟨_,rfl,ak rfl⟩,rfl,trivial⟩ rfl (fun w hw=>(SB w hw:St w0 H w).aC ⟨rfl,rfl⟩)
theorem NF{w0:World}{H:List SA}{a:Option Addr}{l:List UInt8}{c:Nat}[hr:dT w0 H (.slice a l.length c) l](hl:l.length<=4294967296):CT prog w0 (H) 221 [.slice a l.length c] (α:=aJ) (fun y=> .tuple #[.agg y.cells,.int .i64 (gP l).1]) (fun y=>pu (y.abs=(gP l).2)::row (.slice y.sig.a (y.sig.l).length y.sig.c) 5 1 (aE (y.sig.l))::H):=by
 refine al func221 rfl ntmps221 rfl (gG ?_);refine ze rfl (an (fun b2=>gG ?_));refine ze rfl (zc (lD hl) rfl (fun x9=>?_));refine aV (fun h9=>?_);have hlen:=congrArg List.length h9;refine gG ?_;refine aU x9.1 ?_;refine ze rfl (zc (kN (b:=x9.2) (k:=0) (m:=100) om (by rw[h9];omega) dc) rfl (fun x12=>?_));rw[XI];obtain⟨hb1,hb2⟩:=eM x9.2.l 100;refine gG ?_;refine yC ?_ ?_<;>intro h16 p16<;>refine gG ?_
 ·refine Zg ?_;refine aag ?_;have e:gP l=((au x9.2.l 100).1,.zero):=by
   rw[←h9];unfold gP;rw[if_pos p16]
  rw[e];exact abe
 refine ze rfl (zc (Lq (a:=x12.a) (l:=(au x9.2.l 100).2.1) (c:=x12.c) om) rfl (fun x21=>?_));refine aV (fun h21=>?_);obtain⟨h21,h21s⟩:=h21;have htsg:=xO (au x9.2.l 100).2.1;refine gG ?_;refine ze rfl (an (fun b7=>?_));refine aag ?_;refine yC ?_ ?_<;>intro h25 p25<;>refine gG ?_
 ·refine Zg ?_;refine aag ?_;have e:gP l=((fC (au x9.2.l 100).2.1).1,.zero):=by
   rw[←h9];unfold gP;rw[if_neg om,if_pos p25]
  rw[e];exact abe
 refine aU x9.1 ?_;refine ze rfl (zc (kN (b:=x9.2) (k:=0+(au x9.2.l 100).2.2) (m:=1000) om (by rw[h9];omega) dc) rfl (fun x30=>?_));rw[XQ];obtain⟨hb3,hb4⟩:=eM (x9.2.l.drop (au x9.2.l 100).2.2) 1000;rw[Xe]at hb3 hb4;refine gG ?_;refine aaM ?_;refine yC ?_ ?_<;>intro h35 p35<;>refine gG ?_
 ·refine Zg ?_;refine aag ?_;have e:gP l=((au (x9.2.l.drop (au x9.2.l 100).2.2) 1000).1,.zero):=by
   rw[←h9];unfold gP;rw[if_neg om,if_neg om,if_pos p35]
  rw[e];exact abe
 refine aU x9.1 ?_;refine ze rfl (zc (nU (b:=x9.2) (k:=(au x9.2.l 100).2.2+(au (x9.2.l.drop (au x9.2.l 100).2.2) 1000).2.2) om (by rw[h9];omega)) rfl (fun x40=>gG ?_));refine yC ?_ ?_<;>intro h38 p38
 ·have hdn:(au x9.2.l 100).2.2+(au (x9.2.l.drop (au x9.2.l 100).2.2) 1000).2.2<x9.2.l.length:=by by_cases hh:(au x9.2.l 100).2.2+(au (x9.2.l.drop (au x9.2.l 100).2.2) 1000).2.2<x9.2.l.length;exact hh;simp[hh]at h38
  refine gG ?_;refine aaC ?_;refine aag ?_;have e:gP l=(2,.zero):=by
   rw[←h9];unfold gP;rw[if_neg om,if_neg om,if_neg om,if_pos hdn]
  rw[e];exact abe
 have hdn:¬(au x9.2.l 100).2.2+(au (x9.2.l.drop (au x9.2.l 100).2.2) 1000).2.2<x9.2.l.length:=by intro hh;simp[hh]at h38
 refine gG ?_;refine ze rfl (zc (yz (r:=(aJ.mk x21.aG x21.seq x21.op ⟨x30.a,x30.c,(au (x9.2.l.drop (au x9.2.l 100).2.2) 1000).2.1⟩))) rfl (fun x45=>gG ?_));refine yC ?_ ?_<;>intro h43 p43<;>refine gG ?_
 ·refine aaC ?_;refine aag ?_;have e:gP l=(15,.zero):=by
   rw[←h9];unfold gP;rw[if_neg om,if_neg om,if_neg om,if_neg hdn,if_pos (by rw[←h21];have h:(!(bh (aJ.mk x21.aG x21.seq x21.op ⟨x30.a,x30.c,(au (x9.2.l.drop (au x9.2.l 100).2.2) 1000).2.1⟩).abs))=true:=h43;exact(YO _).mp h)]
  rw[e];exact abe
 refine aag ?_;have e:gP l=(0,{(fC (au x9.2.l 100).2.1).2 with sig:=(au (x9.2.l.drop (au x9.2.l 100).2.2) 1000).2.1}):=by
  rw[←h9];unfold gP;rw[if_neg om,if_neg om,if_neg om,if_neg hdn,if_neg (by rw[←h21];intro hh;have h:(!(bh (aJ.mk x21.aG x21.seq x21.op ⟨x30.a,x30.c,(au (x9.2.l.drop (au x9.2.l 100).2.2) 1000).2.1⟩).abs))=false:=h43;rw[show bh (aJ.mk x21.aG x21.seq x21.op ⟨x30.a,x30.c,(au (x9.2.l.drop (au x9.2.l 100).2.2) 1000).2.1⟩).abs=false from hh]at h;cases h)]
 rw[e];exact zX (aJ.mk x21.aG x21.seq x21.op ⟨x30.a,x30.c,(au (x9.2.l.drop (au x9.2.l 100).2.2) 1000).2.1⟩) [_,_] results221 ⟨⟨_,rfl,ak rfl⟩,rfl,trivial⟩ rfl (aP (by rw[←h21];rfl) SB)
end
end Go.Proofs.YtmbfimckmfnnjaaGreatDoor
