/- Steps of the proof of a law. -/
import Derived.Test.YtmbfimckmfnnjaaGreatDoorQ11
import Derived.Test.YtmbfimckmfnnjaaGreatDoorQ16
set_option maxRecDepth 100000
set_option maxHeartbeats 1000000
set_option linter.unusedSimpArgs false
set_option linter.unusedVariables false
namespace Go.Proofs.YtmbfimckmfnnjaaGreatDoor
open Go.RowKit Go.Sx Go.Proofs.Tryz
def o7(n:Int):Value:= .int .i64 n
instance UL:Key prog 3 o7 where
 eq x y w:=mP (x:=o7 x) (y:=o7 y) (h:=(inferInstance:KA prog 3 (.int .i64 x) (.int .i64 y) _)) w
 now d hd x y:=by
   rw[underlying3]at hd;obtain rfl: .int .i64=d:=by simpa using hd
   right
   simp only[o7,Instr.sameNow,if_true]
   congr 1
 there:=by rw[underlying3];rfl
 check k empty w:=by
   have h:∀n,n=9999+1->(Instr.checkKey empty n 3 (o7 k)).run prog w= .ok () w:=fun n hn=>by
     rw[hn,Instr.checkKey];simp only[Sem.run_bind,run_underlying underlying3,Result.andThen_ok,o7,Sem.run_pure]
   exact h 10000 dc
 same k:=by
   have h:∀n,Instr.sameBits n (o7 k) (o7 k)=true:=fun n=>by cases n<;>simp[Instr.sameBits,o7]
   exact h 10000
abbrev EZ:=List (iK Int Int)
def Hy(f:Int->Int)(r:fD):Int->Int:=fun c=>if c=r.aG then r.seq else f c
def okB:(Int->Int)->List fD->Bool
 |_,[]=>true
 |f,r::rs=>bh r&&decide (f r.aG<r.seq)&&okB (Hy f r) rs
def Au(ls:List fD):Bool:=okB (fun _=>0) ls&&decide (1<=ls.length/\ls.length<=4)
variable {l:List UInt8} {q n:Nat} {acc:List fD}
theorem HF(f:Int->Int)(ls:List fD)(k:Nat)(h:k<ls.length):okB f (ls.drop k)=(bh ls[k]&&decide (f ls[k].aG<ls[k].seq)&&okB (Hy f ls[k]) (ls.drop (k+1))):=by
 rw[Xu h];rfl
def w8(l:List UInt8):Nat->Nat->List fD->Int×List fD×Nat
 |q,0,acc=>(0,acc,q)
 |q,n+1,acc=>if (au (l.drop q) 2000).1≠0 then((au (l.drop q) 2000).1,acc,q)else if (gP (au (l.drop q) 2000).2.1).1≠0 then((gP (au (l.drop q) 2000).2.1).1,acc,q)
   else w8 l (q+(au (l.drop q) 2000).2.2) n (acc++[(gP (au (l.drop q) 2000).2.1).2])
def bN(l:List UInt8):Int×List fD:=
 if (ay l 4).1≠0 then((ay l 4).1,[])
 else if (w8 l (ay l 4).2.2 (ay l 4).2.1 []).1≠0 then((w8 l (ay l 4).2.2 (ay l 4).2.1 []).1,[])
 else if (w8 l (ay l 4).2.2 (ay l 4).2.1 []).2.2<l.length then(2,[])
 else if Au (w8 l (ay l 4).2.2 (ay l 4).2.1 []).2.1=false then(15,[])else(0,(w8 l (ay l 4).2.2 (ay l 4).2.1 []).2.1)
theorem Da(h:(au (l.drop q) 2000).1≠0):w8 l q (n+1) acc=((au (l.drop q) 2000).1,acc,q):=if_pos h
theorem BD(h:(au (l.drop q) 2000).1=0)(h2:(gP (au (l.drop q) 2000).2.1).1≠0):w8 l q (n+1) acc=((gP (au (l.drop q) 2000).2.1).1,acc,q):=by
 rw[w8,if_neg afh,if_pos h2]
theorem Kk(h:(au (l.drop q) 2000).1=0)(h2:(gP (au (l.drop q) 2000).2.1).1=0):w8 l q (n+1) acc=w8 l (q+(au (l.drop q) 2000).2.2) n (acc++[(gP (au (l.drop q) 2000).2.1).2]):=by
 rw[w8,if_neg afh,if_neg (by simpa using h2)]
theorem BX{r:fD}(h:bh r=true):1<=r.seq/\r.seq<=8:=by
 unfold bh at h;exact(of_decide_eq_true h).2.1
attribute [local irreducible] fH gP au bh
theorem vM{w0:World}{H:List SA}{a:Option Addr}{c:Nat}{ls:List aJ}[hr:gy w0 H (.slice a ls.length c) 7 (ls.flatMap aJ.list)](hn:ls.length<=100):CT prog w0 (H) 222 [.slice a ls.length c] (α:=Unit) (fun _=> .bool (Au (ls.map aJ.abs))) (fun _=>H):=by
 refine al func222 rfl ntmps222 rfl (gG ?_);refine ze rfl (mj o7 o7 (fun r6=>gG ?_));refine bH [2,5,9,10,11,12,13,14,15,16,17,18,19,20,21,22,23,24,25,26,27,28,29,30] [9] (fun us H'=>∃(k:Nat)(es:EZ)(cl:Nat),us=[.int .i64 (k:Int)]/\aF r6 (cF o7 o7 es cl)::H=H'/\k<=ls.length/\(okB (fun _=>0) (ls.map aJ.abs)=okB (fun z=>(eu es z).getD 0) ((ls.map aJ.abs).drop k))) (fun us=>match us with| .int _ i::_=>ls.length-i.toNat|_=>0) ⟨0,[],0,rfl,rfl,om,rfl⟩ SB ?_;rintro τ0 _ _ ⟨k,es,cl,rfl,rfl,hk0,hi⟩ _;refine gG ?_;refine yC ?_ ?_<;>intro h10 p10
 ·have hk:k<ls.length:=om;have hst:=HF (fun z=>(eu es z).getD 0) (ls.map aJ.abs) k abf;have hgk:((ls.map aJ.abs)[k]'abf)=ls[k].abs:=sm;rw[hgk]at hst;refine gG ?_;refine ac0 ?_;refine ze rfl (an (fun b5=>?_));refine aag ?_;refine ze rfl (zc (yz (r:=ls[k])) rfl (fun x14=>gG ?_));refine yS 16 ?_ ?_<;>intro h16 p16<;>refine gG ?_
  ·refine Zc ?_;refine Zd ?_;have e:Au (ls.map aJ.abs)=false:=by unfold Au;rw[hi,hst,show bh ls[k].abs=false from by simpa using p16];rfl
   rw[e];exact ahk
  refine zq (lZ (key:=ls[k].aG) (enc:=o7) (ev:=o7) ((0:Int)) rfl rfl underlying350 ((inferInstance:lT prog 3 (.int .i64 0)).ok)) rfl ?_;refine gG ?_;refine yC ?_ ?_<;>intro h24 p24
  ·refine gG ?_;refine Zd ?_;have hx:¬(eu es ls[k].abs.aG).getD 0<ls[k].abs.seq:=by show ¬(eu es ls[k].aG).getD 0<ls[k].seq;omega
   have e:Au (ls.map aJ.abs)=false:=by unfold Au;rw[hi,hst,decide_eq_false hx,Bool.and_false];rfl
   rw[e];exact ahk
  have hx:(eu es ls[k].abs.aG).getD 0<ls[k].abs.seq:=by show(eu es ls[k].aG).getD 0<ls[k].seq;omega
  rw[p16,decide_eq_true hx,Bool.true_and,Bool.true_and]at hst;refine gG ?_;refine zN (kH (key:=ls[k].aG) (enc:=o7) (ev:=o7) (ls[k].seq) rfl rfl rfl underlying350 ((gA ?_)));apply bW
  case ha=>exact aff
  case hI=>exact⟨k+1,(fZ es ls[k].aG ls[k].seq cl),(gM es ls[k].aG cl),rfl,rfl,om,by rw[hi,hst];exact congrArg (fun g=>okB g _) (funext fun z=>by
                show(if z=ls[k].aG then ls[k].seq else(eu es z).getD 0)=_;rw[Hb];by_cases hz:z=ls[k].aG
                · rw[if_pos hz,if_pos hz];rfl
                · rw[if_neg hz,if_neg hz])⟩
  case hm=>exact afK
  case hH=>exact SB
 have hkn:k=ls.length:=om;subst hkn;have hok:okB (fun _=>0) (ls.map aJ.abs)=true:=by rw[hi,XV sm];rfl
 refine gG ?_;refine Za ?_;refine yS 34 ?_ ?_<;>intro h34 p34<;>refine gG ?_
 ·have e:Au (ls.map aJ.abs)=decide (1<=ls.length/\ls.length<=4):=by unfold Au;rw[hok,WZ];rfl
  rw[e];exact adQ
 have e:Au (ls.map aJ.abs)=decide (1<=ls.length/\ls.length<=4):=by unfold Au;rw[hok,WZ];rfl
 rw[e];exact adQ
theorem vW{w0:World}{H:List SA}{a:Option Addr}{c:Nat}[hr:dT w0 H (.slice a l.length c) l](hl:l.length<=4294967296):CT prog w0 (H) 138 [.slice a l.length c] (α:=(AC×List aJ)×List Nat) (fun y=> .tuple #[.slice y.1.1.a y.1.2.length y.1.1.c,.int .i64 (bN l).1]) (fun y=>pu (y.1.2.map aJ.abs=(bN l).2/\(∀x∈y.1.2,db x.op.a/\db x.op.b)/\y.1.2.length<=4)::row (.slice y.1.1.a (y.1.2).length y.1.1.c) 250 7 ((y.1.2).flatMap aJ.list)::dX y.2 ⟨(y.1.2).map aJ.sig,[],[]⟩::H):=by
 refine al func138 rfl ntmps138 rfl (gG ?_);refine ze rfl (zc (lD hl) rfl (fun x12=>?_));refine aV (fun h12=>?_);refine gG ?_;refine aU x12.1 ?_;refine ze rfl (zc (sg (b:=x12.2) (k:=0) (m:=4) om (by rw[h12];omega) dc) rfl (fun x15=>?_));rw[XI];obtain⟨hb1,hb2,hb3⟩:=iV x12.2.l 4;rw[XQ];refine gG ?_;refine yC ?_ ?_<;>intro h19 p19
 ·refine gG ?_;have e:bN l=((ay x12.2.l 4).1,[]):=by
   rw[←h12];unfold bN;rw[if_pos p19]
  simp only[e];exact zX ((⟨none,0⟩,[]),[]) [_,_] results138 ⟨rfl,rfl,trivial⟩ rfl (fun w hw=>by
   have h0:St w0 H w:=SB w hw;exact St.aC (h0.iw.cT 250 7) ⟨rfl,fun x hx=>afe,Xv _⟩)
 have hc0:(ay x12.2.l 4).1=0:=om;have hc4:=(hZ hc0).2.1;rw[←show ay x12.2.l 4=aq x12.2.l from(hZ hc0).1]at hc4;refine gG ?_;refine bH [2,3,7,8,9,10,22,23,24,25,26,27,28,29,30,31,32,33,34,35,36,37,38,39,40,41,42,43,44] [22,7] (fun us H'=>∃(k:Nat)(a7:Option Addr)(c7:Nat)(ls:List aJ)(fp:List Nat)(q:Nat),us=[.int .i64 (k:Int),.slice a7 ls.length c7]/\row (.slice a7 (ls).length c7) 250 7 ((ls).flatMap aJ.list)::dX fp ⟨(ls).map aJ.sig,[],[]⟩::aF x12.1 (.cells (bf.mk x12.2 ((q:Nat):Int)).cells 192 (0,0))::row (.slice x12.2.a x12.2.l.length x12.2.c) 5 1 (aE x12.2.l)::H=H'/\k<=(ay x12.2.l 4).2.1/\((w8 x12.2.l (ay x12.2.l 4).2.2 (ay x12.2.l 4).2.1 [])=w8 x12.2.l q ((ay x12.2.l 4).2.1-k) (ls.map aJ.abs))/\(ls.length=k)/\(q<=x12.2.l.length)/\(∀x∈ls,db x.op.a/\db x.op.b)) (fun us=>match us with| .int _ i::_=>(ay x12.2.l 4).2.1-i.toNat|_=>0) ⟨0,none,0,[],[],(ay x12.2.l 4).2.2,rfl,rfl,om,rfl,rfl,hb2,fun x hx=>by cases hx⟩ (fun w hw=>by
  have h0:St w0 (aF x12.1 (.cells (bf.mk x12.2 (((ay x12.2.l 4).2.2:Nat):Int)).cells 192 (0,0))::row (.slice x12.2.a x12.2.l.length x12.2.c) 5 1 (aE x12.2.l)::H) w:=SB w hw;exact(h0.iw).cT 250 7) ?_
 rintro τ0 _ _ ⟨k,a7,c7,ls,fp,q,rfl,rfl,hk0,hi,hll,hq,hsg⟩ _;refine gG ?_;refine yC ?_ ?_<;>intro h23 p23
 ·have hk:k<(ay x12.2.l 4).2.1:=om;rw[show(ay x12.2.l 4).2.1-k=((ay x12.2.l 4).2.1-(k+1))+1 from by omega]at hi;refine gG ?_;refine aU x12.1 ?_;refine ze rfl (zc (kN (b:=x12.2) (k:=q) (m:=2000) hq (by rw[h12];omega) dc) rfl (fun x26=>?_));obtain⟨ht1,ht2⟩:=eM (x12.2.l.drop q) 2000;rw[Xe]at ht1 ht2;refine gG ?_;refine yC ?_ ?_<;>intro h30 p30
  ·rw[Da p30]at hi;refine gG ?_;refine Zd ?_;have e:bN l=((au (x12.2.l.drop q) 2000).1,[]):=by
    rw[←h12];unfold bN;rw[if_neg om,if_pos (by rw[hi];exact p30),hi]
   simp only[e];exact zX ((⟨none,0⟩,[]),[]) [_,_] results138 ⟨rfl,rfl,trivial⟩ rfl (fun w hw=>by
    have h0:St w0 H w:=SB w hw;exact St.aC (h0.iw.cT 250 7) ⟨rfl,fun x hx=>afe,Xv _⟩)
  refine gG ?_;refine ze rfl (zc (NF (a:=x26.a) (l:=(au (x12.2.l.drop q) 2000).2.1) (c:=x26.c) (by have:=congrArg List.length h12;omega)) rfl (fun x34=>?_));refine aV (fun h34=>?_);have hys:=vJ (au (x12.2.l.drop q) 2000).2.1;rw[←h34]at hys;refine gG ?_;refine ze rfl (an (fun b10=>?_));refine aag ?_;refine yC ?_ ?_<;>intro h38 p38
  ·rw[BD om p38]at hi;refine gG ?_;refine Zd ?_;have e:bN l=((gP (au (x12.2.l.drop q) 2000).2.1).1,[]):=by
    rw[←h12];unfold bN;rw[if_neg om,if_pos (by rw[hi];exact p38),hi]
   simp only[e];exact zX ((⟨none,0⟩,[]),[]) [_,_] results138 ⟨rfl,rfl,trivial⟩ rfl (fun w hw=>by
    have h0:St w0 H w:=SB w hw;exact St.aC (h0.iw.cT 250 7) ⟨rfl,fun x hx=>afe,Xv _⟩)
  rw[Kk om om,←h34]at hi;refine gG ?_;refine ze rfl (cr (m:=([x34]:List aJ).length) [.agg (x34).cells] (([x34]:List aJ).flatMap aJ.list) rfl rfl rfl rfl ahq rfl rfl (fun a42 c42=>?_));refine ze rfl (cp aJ.list (sv:= .slice _ _ _) (xv:= .slice _ _ _) (xs:=ls) (ys:=[x34]) aJ.ae aJ.aS rfl rfl so rfl rfl (fun a43 c43=>gA ?_));apply bW
  case ha=>exact aff
  case hI=>exact⟨k+1,a43,c43,ls++[x34],(fp++(bQ (.slice x34.sig.a x34.sig.l.length x34.sig.c))),_,rfl,rfl,om,by rw[hi,Xi];rfl,by simp[hll],om,fun x hx=>by rcases Xc.1 hx with h|h;exact hsg x h;rw[Xb.1 h];exact hys⟩
  case hm=>exact by show(ay x12.2.l 4).2.1-(k+1:Int).toNat<(ay x12.2.l 4).2.1-(k:Int).toNat;omega
  case hH=>exact(fun w hw=>by
                have h1:St w0 (row (.slice x34.sig.a x34.sig.l.length x34.sig.c) 5 1 (aE x34.sig.l)::dX fp ⟨(ls).map aJ.sig,[],[]⟩::row (.slice a43 (ls++[x34]).length c43) 250 7 ((ls++[x34]).flatMap aJ.list)::aF x12.1 (.cells (bf.mk x12.2 ((q+(au (x12.2.l.drop q) 2000).2.2:Nat):Int)).cells 192 (0,0))::row (.slice x12.2.a x12.2.l.length x12.2.c) 5 1 (aE x12.2.l)::H) w:=SB w hw;have h3:St w0 (dX fp ⟨(ls).map aJ.sig,[],[]⟩::dX (bQ (.slice x34.sig.a x34.sig.l.length x34.sig.c)) ⟨[x34.sig],[],[]⟩::row (.slice a43 (ls++[x34]).length c43) 250 7 ((ls++[x34]).flatMap aJ.list)::aF x12.1 (.cells (bf.mk x12.2 ((q+(au (x12.2.l.drop q) 2000).2.2:Nat):Int)).cells 192 (0,0))::row (.slice x12.2.a x12.2.l.length x12.2.c) 5 1 (aE x12.2.l)::H) w:=cJ.st inferInstance w h1.KV;have h4:St w0 (dX (fp++(bQ (.slice x34.sig.a x34.sig.l.length x34.sig.c))) ⟨(ls++[x34]).map aJ.sig,[],[]⟩::row (.slice a43 (ls++[x34]).length c43) 250 7 ((ls++[x34]).flatMap aJ.list)::aF x12.1 (.cells (bf.mk x12.2 ((q+(au (x12.2.l.drop q) 2000).2.2:Nat):Int)).cells 192 (0,0))::row (.slice x12.2.a x12.2.l.length x12.2.c) 5 1 (aE x12.2.l)::H) w:=by
                 rw[Xi];exact h3.j3
                exact cJ.st inferInstance w h4)
 have hkn:k=(ay x12.2.l 4).2.1:=om;rw[hkn,Y8]at hi;have hie:(w8 x12.2.l (ay x12.2.l 4).2.2 (ay x12.2.l 4).2.1 [])=(0,ls.map aJ.abs,q):=hi;refine gG ?_;refine Za ?_;refine aU x12.1 ?_;refine ze rfl (zc (nU (b:=x12.2) (k:=q) hq (by rw[h12];omega)) rfl (fun x47=>gG ?_));refine yC ?_ ?_<;>intro h45 p45
 ·have hdn:q<x12.2.l.length:=by by_cases hh:q<x12.2.l.length;exact hh;simp[hh]at h45
  refine gG ?_;have e:bN l=(2,[]):=by
   rw[←h12];unfold bN;rw[if_neg om,if_neg agq,if_pos (by rw[hie];exact hdn)]
  simp only[e];exact zX ((⟨none,0⟩,[]),[]) [_,_] results138 ⟨rfl,rfl,trivial⟩ rfl (fun w hw=>by
   have h0:St w0 H w:=SB w hw;exact St.aC (h0.iw.cT 250 7) ⟨rfl,fun x hx=>afe,Xv _⟩)
 have hdn:¬q<x12.2.l.length:=by intro hh;simp[hh]at h45
 refine gG ?_;refine ze rfl (zc (vM (ls:=ls) om) rfl (fun x51=>gG ?_));refine yC ?_ ?_<;>intro h49 p49<;>refine gG ?_
 ·have e:bN l=(15,[]):=by
   rw[←h12];unfold bN;rw[if_neg om,if_neg agq,if_neg (by rw[hie];exact hdn),if_pos (by rw[hie];simpa using h49)]
  simp only[e];exact zX ((⟨none,0⟩,[]),[]) [_,_] results138 ⟨rfl,rfl,trivial⟩ rfl (fun w hw=>by
   have h0:St w0 H w:=SB w hw;exact St.aC (h0.iw.cT 250 7) ⟨rfl,fun x hx=>afe,Xv _⟩)
 have e:bN l=(0,ls.map aJ.abs):=by
  rw[←h12];unfold bN;rw[if_neg om,if_neg agq,if_neg (by rw[hie];exact hdn),if_neg (by rw[hie];simpa using h49),hie]
 rw[e];exact zX ((⟨a7,c7⟩,ls),fp) [_,_] results138 ⟨rfl,rfl,trivial⟩ rfl (fun w hw=>(SB w hw:St w0 (row (.slice a7 (ls).length c7) 250 7 ((ls).flatMap aJ.list)::dX fp ⟨(ls).map aJ.sig,[],[]⟩::H) w).aC ⟨rfl,hsg,by show ls.length<=4;omega⟩)
end Go.Proofs.YtmbfimckmfnnjaaGreatDoor
