/- Steps of the proof of a law. -/
import Derived.Test.YtmbfimckmfnnjaaGreatDoorQ26
set_option maxRecDepth 100000
set_option maxHeartbeats 1000000
set_option linter.unusedSimpArgs false
set_option linter.unusedVariables false
namespace Go.Proofs.YtmbfimckmfnnjaaGreatDoor
open Go.RowKit Go.Sx Go.Proofs.Tryz
section
def cR(l:List UInt8):Int×ar:=
 if l.length<4 then(1,.zero)else if (aq (l.drop 4)).1≠0 then((aq (l.drop 4)).1,.zero)
 else if 1<(l.getD 3 0).toNat∨4+(aq (l.drop 4)).2.2<l.length then(2,.zero)
 else(0,ar.mk (l.getD 0 0).toNat (l.getD 1 0).toNat (l.getD 2 0).toNat (cI.mk (decide (((l.getD 3 0).toNat:Int)=1)) (dj (aq (l.drop 4)).2.1)))
theorem fB(l:List UInt8):(bx l 2).2.1<65536/\(bx l 2).2.2<=l.length:=by
 unfold bx;rw[if_neg dc]
 split
 · exact⟨dc,Xv _⟩
 · rename_i h
   have:=D8 (l.take (2:Int).toNat);have h2:(256:Nat)^(l.take (2:Int).toNat).length<=256^2:=X8 dc so;have h3:(256:Nat)^2=65536:=dc;exact⟨by show si _<_;omega,by show(2:Int).toNat<=_;omega⟩
theorem OZ{l:List UInt8}(h:¬(bx l 2).1≠0):2<=l.length/\(bx l 2).2.2=2:=by
 rcases X7 l.length 2 with hs|hs
 · rw[mJ rfl om]at h;exact absurd (show((1:Int),0,0).1≠0 by decide) h
 · exact⟨hs,by have:=nF (l:=l) (n:=2) rfl hs;rw[show bx l 2=_ from this]⟩
theorem It{l:List UInt8}(h:(bx l 2).1≠0):l.length<2/\(bx l 2).1=1:=by
 rcases X7 l.length 2 with hs|hs
 · exact⟨hs,by rw[mJ rfl om]⟩
 · have:=nF (l:=l) (n:=2) rfl hs
   rw[show bx l 2=_ from this]at h;exact absurd rfl h
theorem Ll{l:List UInt8}(h:(bx (l.drop (bx l 2).2.2) 2).1≠0):l.length<4:=by
 have h1:=(It h).1;rw[Xe]at h1;by_cases h2:(bx l 2).1≠0
 · have:=It h2;omega
 · rw[(OZ h2).2]at h1;omega
theorem Jk{l:List UInt8}(h:¬(bx (l.drop (bx l 2).2.2) 2).1≠0):4<=l.length/\(bx l 2).2.2=2/\(bx (l.drop 2) 2).2.2=2:=by
 have h1:=OZ h;by_cases h2:(bx l 2).1≠0
 · have h3:=It h2
   rw[Xe]at h1;omega
 · have h3:=(OZ h2).2
   rw[h3]at h1;refine⟨?_,h3,h1.2⟩;have:=h1.1;rw[Xe]at this;omega
def eL(l:List UInt8):Int×aH:=if l.length<4 then(1,.zero)else if 4<l.length∨dC ((bx l 2).2.1:Int) (bx (l.drop 2) 2).2.1=false then(2,.zero)else(0,⟨((bx l 2).2.1:Int),((bx (l.drop 2) 2).2.1:Int)⟩)
def tZ(l:List UInt8):Int×aH:=if (au l 1000).1≠0 then((au l 1000).1,.zero)else eL (au l 1000).2.1
def xy{α:Type}{n:Nat}(v:Vector α n)(k:Nat)(c:α):Vector α n:=if h:k<n then v.set k c else v
theorem Az{α:Type}{n:Nat}(v:Vector α n){k:Nat}(c:α)(h:k<n):xy v k c=v.set k c:=dif_pos h
abbrev nE:Vector ax 16:=Vector.replicate 16 ax.zero
def jP(l:List UInt8):Nat->Nat->Int->Vector ax 16->Int×Nat×Vector ax 16
 |0,q,_,cs=>(0,q,cs)
 |n+1,q,la,cs=>if l.length<=q then(1,q,cs)else if (aq (l.drop (q+1))).1≠0 then((aq (l.drop (q+1))).1,q,cs)
   else if 15<(l.getD q 0).toNat∨((l.getD q 0).toNat:Int)<=la then(2,q,cs)
   else jP l n (q+1+(aq (l.drop (q+1))).2.2) ((l.getD q 0).toNat:Int) (xy cs (l.getD q 0).toNat ⟨true,dj (aq (l.drop (q+1))).2.1⟩)
theorem DG{l:List UInt8}{q:Nat}{la:Int}{cs:Vector ax 16}:jP l 0 q la cs=(0,q,cs):=rfl
theorem Jr{l:List UInt8}{n q:Nat}{la:Int}{cs:Vector ax 16}(h:l.length<=q):jP l (n+1) q la cs=(1,q,cs):=if_pos h
theorem JM{l:List UInt8}{n q:Nat}{la:Int}{cs:Vector ax 16}(h:q<l.length)(h2:(aq (l.drop (q+1))).1≠0):jP l (n+1) q la cs=((aq (l.drop (q+1))).1,q,cs):=by rw[jP,if_neg om,if_pos h2]
theorem zU{l:List UInt8}{n q:Nat}{la:Int}{cs:Vector ax 16}(h:q<l.length)(h2:(aq (l.drop (q+1))).1=0)(h3:15<(l.getD q 0).toNat∨((l.getD q 0).toNat:Int)<=la):jP l (n+1) q la cs=(2,q,cs):=by rw[jP,if_neg om,if_neg om,if_pos h3]
theorem IU{l:List UInt8}{n q:Nat}{la:Int}{cs:Vector ax 16}(h:q<l.length)(h2:(aq (l.drop (q+1))).1=0)(h3:¬15<(l.getD q 0).toNat/\¬((l.getD q 0).toNat:Int)<=la):jP l (n+1) q la cs=jP l n (q+1+(aq (l.drop (q+1))).2.2) ((l.getD q 0).toNat:Int) (cs.set (l.getD q 0).toNat ⟨true,dj (aq (l.drop (q+1))).2.1⟩ om):=by rw[jP,if_neg om,if_neg om,if_neg om,Az _ _ om]
def k9(l:List UInt8):Int×Vector ax 16:=
 if (ay l 16).1≠0 then((ay l 16).1,nE)else if (jP l (ay l 16).2.1 (ay l 16).2.2 (-1) nE).1≠0 then((jP l (ay l 16).2.1 (ay l 16).2.2 (-1) nE).1,nE)
 else if (jP l (ay l 16).2.1 (ay l 16).2.2 (-1) nE).2.1<l.length then(2,nE)else(0,(jP l (ay l 16).2.1 (ay l 16).2.2 (-1) nE).2.2)
structure CI where
 e:Int
 q:Nat
 w:aj
def gk(l:List UInt8)(i:Nat)(s:CI):CI:=
 if s.e≠0 then s else if (au (l.drop s.q) 1000).1≠0 then⟨(au (l.drop s.q) 1000).1,s.q,s.w⟩
 else if i=0 then⟨(eL (au (l.drop s.q) 1000).2.1).1,s.q+(au (l.drop s.q) 1000).2.2,{s.w with view:=(eL (au (l.drop s.q) 1000).2.1).2}⟩
 else if i=1 then⟨(eL (au (l.drop s.q) 1000).2.1).1,s.q+(au (l.drop s.q) 1000).2.2,{s.w with fM:=(eL (au (l.drop s.q) 1000).2.1).2}⟩
 else if i=2 then⟨(k9 (au (l.drop s.q) 1000).2.1).1,s.q+(au (l.drop s.q) 1000).2.2,{s.w with cs:=(k9 (au (l.drop s.q) 1000).2.1).2}⟩
 else⟨(cR (au (l.drop s.q) 1000).2.1).1,s.q+(au (l.drop s.q) 1000).2.2,{s.w with last:=xy s.w.last (i-3) (cR (au (l.drop s.q) 1000).2.1).2}⟩
def ed(l:List UInt8):Nat->CI
 |0=>⟨0,4,{aj.zero with slot:=((bx l 2).2.1:Int),first:=((bx (l.drop 2) 2).2.1:Int)}⟩
 |i+1=>gk l i (ed l i)
def cN(l:List UInt8):Int×aj:=if l.length<4 then(1,.zero)else if (ed l 9).e≠0 then((ed l 9).e,.zero)else if (ed l 9).q<l.length then(2,.zero)else(0,(ed l 9).w)
theorem lR{l:List UInt8}{i:Nat}{s:CI}(h0:s.e=0)(h:(au (l.drop s.q) 1000).1≠0):gk l i s=⟨(au (l.drop s.q) 1000).1,s.q,s.w⟩:=by unfold gk;rw[if_neg om,if_pos h]
theorem uE{l:List UInt8}{s:CI}(h0:s.e=0)(h:(au (l.drop s.q) 1000).1=0):gk l 0 s=⟨(eL (au (l.drop s.q) 1000).2.1).1,s.q+(au (l.drop s.q) 1000).2.2,{s.w with view:=(eL (au (l.drop s.q) 1000).2.1).2}⟩:=by unfold gk;rw[if_neg om,if_neg om,if_pos rfl]
theorem uw{l:List UInt8}{s:CI}(h0:s.e=0)(h:(au (l.drop s.q) 1000).1=0):gk l 1 s=⟨(eL (au (l.drop s.q) 1000).2.1).1,s.q+(au (l.drop s.q) 1000).2.2,{s.w with fM:=(eL (au (l.drop s.q) 1000).2.1).2}⟩:=by unfold gk;rw[if_neg om,if_neg om,if_neg dc,if_pos rfl]
theorem An{l:List UInt8}{s:CI}(h0:s.e=0)(h:(au (l.drop s.q) 1000).1=0):gk l 2 s=⟨(k9 (au (l.drop s.q) 1000).2.1).1,s.q+(au (l.drop s.q) 1000).2.2,{s.w with cs:=(k9 (au (l.drop s.q) 1000).2.1).2}⟩:=by unfold gk;rw[if_neg om,if_neg om,if_neg dc,if_neg dc,if_pos rfl]
theorem Ak{l:List UInt8}{k:Nat}(hk:k<6){s:CI}(h0:s.e=0)(h:(au (l.drop s.q) 1000).1=0):gk l (3+k) s=⟨(cR (au (l.drop s.q) 1000).2.1).1,s.q+(au (l.drop s.q) 1000).2.2,{s.w with last:=s.w.last.set k (cR (au (l.drop s.q) 1000).2.1).2}⟩:=by
 unfold gk;rw[if_neg om,if_neg om,if_neg om,if_neg om,if_neg om];rw[show 3+k-3=k by omega,Az _ _ hk]
theorem yY{l:List UInt8}{i:Nat}(h:(ed l i).e≠0):∀j,(ed l (i+j))=ed l i
 |0=>rfl
 |j+1=>by
   rw[show i+(j+1)=(i+j)+1 by omega,ed,yY h j];unfold gk;rw[if_pos h]
theorem kQ{l:List UInt8}{i:Nat}(hi:i<=9)(h4:4<=l.length)(h:(ed l i).e≠0):cN l=((ed l i).e,.zero):=by
 have:=yY h (9-i);rw[show i+(9-i)=9 by omega]at this;unfold cN;rw[if_neg om,this,if_pos h]
theorem vD{l:List UInt8}(h4:4<=l.length):∀i,(ed l i).q<=l.length
 |0=>h4
 |i+1=>by
   have ih:=vD h4 i;have hb:=(eM (l.drop (ed l i).q) 1000).1;rw[Xe]at hb;rw[ed];unfold gk
   repeat' split
   all_goals first|exact ih|(show(ed l i).q+_<=_;omega)
structure ja(w:aj):Prop where
 view:∃m:Nat,m<65536/\w.view.mask=(m:Int)
 fM:∃m:Nat,m<65536/\w.fM.mask=(m:Int)
 cs:∀(i:Nat)(hi:i<16),-9223372036854775808<=w.cs[i].n/\w.cs[i].n<=9223372036854775807
 last:∀(i:Nat)(hi:i<6),-9223372036854775808<=w.last[i].res.n/\w.last[i].res.n<=9223372036854775807
theorem vG(l:List UInt8):∃m:Nat,m<65536/\(eL l).2.mask=(m:Int):=by
 unfold eL
 repeat' split
 · exact⟨0,dc,rfl⟩
 · exact⟨0,dc,rfl⟩
 · exact⟨_,(fB _).1,rfl⟩
theorem yt{l:List UInt8}:∀ {n q:Nat}{la:Int}{cs:Vector ax 16},(∀(i:Nat)(hi:i<16),-9223372036854775808<=cs[i].n/\cs[i].n<=9223372036854775807)->∀(i:Nat)(hi:i<16),-9223372036854775808<=(jP l n q la cs).2.2[i].n/\(jP l n q la cs).2.2[i].n<=9223372036854775807
 |0,_,_,_,h=>h
 |n+1,q,la,cs,h=>by
   rw[jP]
   repeat' split
   all_goals try exact h
   refine yt (fun i hi=>?_);unfold xy
   split
   · rw[Yl]
     split
     · exact k7 (bT _).2.2
     · exact h i hi
   · exact h i hi
theorem qX:∀(i:Nat)(hi:i<16),-9223372036854775808<=nE[i].n/\nE[i].n<=9223372036854775807:=fun i hi=>by simp[ax.zero]
theorem IF(l:List UInt8):∀(i:Nat)(hi:i<16),-9223372036854775808<=(k9 l).2[i].n/\(k9 l).2[i].n<=9223372036854775807:=by
 unfold k9
 repeat' split
 all_goals first|exact qX|exact yt qX
theorem tX(l:List UInt8): -9223372036854775808<=(cR l).2.res.n/\(cR l).2.res.n<=9223372036854775807:=by
 unfold cR
 repeat' split
 all_goals first|exact k7 (bT _).2.2|exact(show -9223372036854775808<=(0:Int)/\(0:Int)<=9223372036854775807 by decide)
theorem BC(l:List UInt8):∀i,ja (ed l i).w
 |0=>⟨⟨0,dc,rfl⟩,⟨0,dc,rfl⟩,fun i hi=>qX i hi,fun i hi=>by simp[ed,ar.zero,cI.zero]⟩
 |i+1=>by
   obtain⟨h1,h2,h3,h4⟩:=BC l i;rw[ed];unfold gk
   repeat' split
   · exact⟨h1,h2,h3,h4⟩
   · exact⟨h1,h2,h3,h4⟩
   · exact⟨vG _,h2,h3,h4⟩
   · exact⟨h1,vG _,h3,h4⟩
   · exact⟨h1,h2,IF _,h4⟩
   · refine⟨h1,h2,h3,fun j hj=>?_⟩
     show -9223372036854775808<=(xy (ed l i).w.last (i-3) _)[j].res.n/\(xy (ed l i).w.last (i-3) _)[j].res.n<=9223372036854775807;unfold xy
     split
     · rw[Yl]
       split
       · exact tX _
       · exact h4 j hj
     · exact h4 j hj
theorem Ch(l:List UInt8):ja (cN l).2:=by
 have h0:ja aj.zero:=⟨⟨0,dc,rfl⟩,⟨0,dc,rfl⟩,fun i hi=>qX i hi,fun i hi=>by simp[ar.zero,cI.zero]⟩;unfold cN
 repeat' split
 all_goals first|exact h0|exact BC l 9
theorem D2{w0:World}{H:List SA}{a:Option Addr}{l:List UInt8}{c:Nat}[hr:dT w0 H (.slice a l.length c) l](hl:l.length<=4294967296):CT prog w0 (H) 115 [.slice a l.length c] (α:=Unit) (fun _=> .tuple #[.agg (cR l).2.cells,.int .i64 (cR l).1]) (fun _=>H):=by
 refine al func115 rfl ntmps115 rfl (gG ?_);refine ze rfl (an (fun b2=>gG ?_));refine ze rfl (zc (lD hl) rfl (fun x14=>?_));refine aV (fun h14=>?_);refine gG ?_;refine ze rfl (an (fun b5=>gG ?_));refine ze rfl (sR (fun b6=>?_));refine aax ?_;refine ZM ?_;refine gD (cc ?_);refine gG ?_;refine Ze ?_;refine Zq ?_;refine aU x14.1 ?_;refine ze rfl (zc (kL (b:=x14.2) (k:=0) om af2) rfl (fun x24=>?_));refine aV (fun h24=>?_);have hb0:=x24.1.toNat_lt;refine gG ?_;refine yC ?_ ?_<;>intro h28 p28
 ·have hs0:x14.2.l.length<=0/\x24.2.2=1:=by
   rcases h24 with⟨-,-,-,h4⟩|⟨h1,-,-,h4⟩
   · omega
   · exact⟨h1,h4⟩
  refine gG ?_;refine Zg ?_;refine aag ?_;refine Zk ?_;have e:cR l=(1,.zero):=if_pos ahM;rw[e];exact zX () [_,_] results115 ⟨⟨_,rfl,ak rfl⟩,rfl,trivial⟩ (by rw[hs0.2];rfl) SB
 obtain⟨hk0,hv0,ha0⟩:0<x14.2.l.length/\x24.1=x14.2.l.getD 0 0/\x24.2.1=0+1:=by
  rcases h24 with⟨h1,h2,h3,-⟩|⟨-,-,-,h4⟩
  · exact⟨h1,h2,h3⟩
  · omega
 rw[ha0];refine gG ?_;refine Zh ?_;refine aaI ?_;refine Zf ?_;refine Ze ?_;refine Zq ?_;refine aU x14.1 ?_;refine ze rfl (zc (kL (b:=x14.2) (k:=0+1) om af2) rfl (fun x24=>?_));refine aV (fun h24=>?_);have hb1:=x24.1.toNat_lt;refine gG ?_;refine yC ?_ ?_<;>intro h28 p28
 ·have hs1:x14.2.l.length<=1/\x24.2.2=1:=by
   rcases h24 with⟨-,-,-,h4⟩|⟨h1,-,-,h4⟩
   · omega
   · exact⟨h1,h4⟩
  refine gG ?_;refine Zg ?_;refine aag ?_;refine Zk ?_;have e:cR l=(1,.zero):=if_pos ahM;rw[e];exact zX () [_,_] results115 ⟨⟨_,rfl,ak rfl⟩,rfl,trivial⟩ (by rw[hs1.2];rfl) SB
 obtain⟨hk1,hv1,ha1⟩:1<x14.2.l.length/\x24.1=x14.2.l.getD 1 0/\x24.2.1=1+1:=by
  rcases h24 with⟨h1,h2,h3,-⟩|⟨-,-,-,h4⟩
  · exact⟨h1,h2,h3⟩
  · omega
 rw[ha1];refine gG ?_;refine Zh ?_;refine aaI ?_;refine Zf ?_;refine Ze ?_;refine Zq ?_;refine aU x14.1 ?_;refine ze rfl (zc (kL (b:=x14.2) (k:=1+1) om af2) rfl (fun x24=>?_));refine aV (fun h24=>?_);have hb2:=x24.1.toNat_lt;refine gG ?_;refine yC ?_ ?_<;>intro h28 p28
 ·have hs2:x14.2.l.length<=2/\x24.2.2=1:=by
   rcases h24 with⟨-,-,-,h4⟩|⟨h1,-,-,h4⟩
   · omega
   · exact⟨h1,h4⟩
  refine gG ?_;refine Zg ?_;refine aag ?_;refine Zk ?_;have e:cR l=(1,.zero):=if_pos ahM;rw[e];exact zX () [_,_] results115 ⟨⟨_,rfl,ak rfl⟩,rfl,trivial⟩ (by rw[hs2.2];rfl) SB
 obtain⟨hk2,hv2,ha2⟩:2<x14.2.l.length/\x24.1=x14.2.l.getD 2 0/\x24.2.1=2+1:=by
  rcases h24 with⟨h1,h2,h3,-⟩|⟨-,-,-,h4⟩
  · exact⟨h1,h2,h3⟩
  · omega
 rw[ha2];refine gG ?_;refine Zh ?_;refine aaI ?_;refine Zf ?_;refine Ze ?_;refine Zq ?_;refine aU x14.1 ?_;refine ze rfl (zc (kL (b:=x14.2) (k:=2+1) om af2) rfl (fun x24=>?_));refine aV (fun h24=>?_);have hb3:=x24.1.toNat_lt;refine gG ?_;refine yC ?_ ?_<;>intro h28 p28
 ·have hs3:x14.2.l.length<=3/\x24.2.2=1:=by
   rcases h24 with⟨-,-,-,h4⟩|⟨h1,-,-,h4⟩
   · omega
   · exact⟨h1,h4⟩
  refine gG ?_;refine Zg ?_;refine aag ?_;refine Zk ?_;have e:cR l=(1,.zero):=if_pos ahM;rw[e];exact zX () [_,_] results115 ⟨⟨_,rfl,ak rfl⟩,rfl,trivial⟩ (by rw[hs3.2];rfl) SB
 obtain⟨hk3,hv3,ha3⟩:3<x14.2.l.length/\x24.1=x14.2.l.getD 3 0/\x24.2.1=3+1:=by
  rcases h24 with⟨h1,h2,h3,-⟩|⟨-,-,-,h4⟩
  · exact⟨h1,h2,h3⟩
  · omega
 rw[ha3];refine gG ?_;refine Zh ?_;refine aaI ?_;refine Zf ?_;refine Zb ?_;refine Zl ?_;refine aU x14.1 ?_;refine ze rfl (zc (rm (b:=x14.2) (k:=3+1) om af2) rfl (fun x38=>gG ?_));refine yC ?_ ?_<;>intro h42 p42<;>refine gG ?_
 ·refine Zg ?_;refine aag ?_;have e:cR l=((aq (x14.2.l.drop (3+1))).1,.zero):=by rw[←h14];unfold cR;rw[if_neg om,if_pos p42]
  rw[e];exact acz
 refine yS 47 ?_ ?_<;>intro h47 p47<;>refine gG ?_
 ·refine Zc ?_;refine aaC ?_;refine aag ?_;have e:cR l=(2,.zero):=by
   rw[←h14];unfold cR;rw[if_neg om,if_neg (by simpa using p42),if_pos aeW]
  rw[e];exact acz
 refine aU x14.1 ?_;refine gG ?_;refine ze rfl (zc (nU (b:=x14.2) (k:=3+1+(aq (x14.2.l.drop (3+1))).2.2) (by have:=(bT (x14.2.l.drop (3+1))).2.1;rw[Xe]at this;omega) af2) rfl (fun x49=>gG ?_));refine yC ?_ ?_<;>intro h51 p51<;>refine gG ?_
 ·refine aaC ?_;refine aag ?_;have e:cR l=(2,.zero):=by
   rw[←h14];unfold cR;rw[if_neg om,if_neg (by simpa using p42),if_pos aeW]
  rw[e];exact acz
 refine acg ?_;refine gG ?_;refine aag ?_;refine aag ?_;have e:cR l=(0,ar.mk (x14.2.l.getD 0 0).toNat (x14.2.l.getD 1 0).toNat (x14.2.l.getD 2 0).toNat (cI.mk (decide (((x14.2.l.getD 3 0).toNat:Int)=1)) (dj (aq (x14.2.l.drop 4)).2.1))):=by
  rw[←h14];unfold cR;rw[if_neg om,if_neg (by simpa using p42),if_neg (by rw[←hv3];simp only[show(3:Nat)+1=4 from rfl]at p51;split at p51<;>omega)]
 rw[e,←hv0,←hv1,←hv2,←hv3,if_pos p42];exact acz
end
section
attribute [local irreducible] bx au aq ay jP cR ed fH dS
variable {w0:World} {H:List SA}
theorem Cu{a:Option Addr}{l:List UInt8}{c:Nat}[hr:dT w0 H (.slice a l.length c) l](hl:l.length<=4294967296):CT prog w0 (H) 192 [.slice a l.length c] (α:=Unit) (fun _=> .tuple #[.agg (eL l).2.cells,.int .i64 (eL l).1]) (fun _=>H):=by
 refine al func192 rfl ntmps192 rfl (gG ?_);refine ze rfl (an (fun b2=>gG ?_));refine ze rfl (zc (lD hl) rfl (fun x11=>?_));refine aV (fun h11=>?_);refine gG ?_;refine aU x11.1 ?_;refine ze rfl (zc (jW (b:=x11.2) (k:=0) (Xv _) (by rw[h11];omega) (n:=2)) rfl (fun x14=>?_));rw[XI,XQ];have hf1:=fB x11.2.l;refine gG ?_;refine aU x11.1 ?_;refine ze rfl (zc (jW (b:=x11.2) (k:=(bx x11.2.l 2).2.2) hf1.2 (by rw[h11];omega) (n:=2)) rfl (fun x19=>?_));have hf2:=fB (x11.2.l.drop 2);refine gG ?_;refine yC ?_ ?_<;>intro h23 p23
 ·refine gG ?_;refine aaC ?_;refine aag ?_;have e:eL l=(1,.zero):=by
   rw[←h11];unfold eL;exact if_pos (Ll (by simpa using h23))
  rw[e];exact acA
 obtain⟨hL4,hf3,hf4⟩:=Jk (l:=x11.2.l) (by simpa using h23);rw[hf3,hf4];refine gG ?_;refine Zh ?_;refine ae6 ?_;rw[kM .u16 rfl afN];refine acM ?_;refine ze rfl (an (fun b9=>?_));refine aag ?_;refine aU x11.1 ?_;refine ze rfl (zc (nU (b:=x11.2) (k:=2+2) om (by rw[h11];omega)) rfl (fun x31=>gG ?_));refine yS 33 ?_ ?_<;>intro h33 p33
 ·have hdn:4<x11.2.l.length:=by by_cases hh:2+2<x11.2.l.length;exact hh;simp[hh]at h33
  refine gG ?_;refine Zc ?_;refine aaC ?_;refine aag ?_;have e:eL l=(2,.zero):=by
   rw[←h11];unfold eL;rw[if_neg om,if_pos ahi]
  rw[e];exact acA
 have hdn:¬4<x11.2.l.length:=by intro hh;simp[show 2+2<x11.2.l.length from hh]at h33
 refine gG ?_;refine ze rfl (zc (pZ (num:=((bx x11.2.l 2).2.1:Int)) (mk:=(bx (x11.2.l.drop 2) 2).2.1) om) rfl (fun x35=>gG ?_));refine yC ?_ ?_<;>intro h37 p37<;>refine gG ?_
 ·refine aaC ?_;refine aag ?_;have e:eL l=(2,.zero):=by
   rw[←h11];unfold eL;rw[if_neg om,if_pos ahi]
  rw[e];exact acA
 refine aag ?_;have e:eL l=(0,⟨((bx x11.2.l 2).2.1:Int),((bx (x11.2.l.drop 2) 2).2.1:Int)⟩):=by
  rw[←h11];unfold eL;rw[if_neg om,if_neg (by rintro(h|h);exact hdn h;rw[h]at h37;cases h37)]
 rw[e];exact acA
theorem Cy{p k:Nat}{b:BS}[rb:dT w0 H (.slice b.a b.l.length b.c) b.l](hk:k<=b.l.length)(hl:b.l.length<=4294967296):CT prog w0 (aF p (.cells (bf.mk b (k:Int)).cells 192 (0,0))::H) 113 [.pointer (some ⟨p,0,none⟩)] (α:=Unit) (fun _=> .tuple #[.agg (tZ (b.l.drop k)).2.cells,.int .i64 (tZ (b.l.drop k)).1]) (fun _=>aF p (.cells (bf.mk b ((k+(au (b.l.drop k) 1000).2.2:Nat):Int)).cells 192 (0,0))::H):=by
 refine al func113 rfl ntmps113 rfl (gG ?_);refine ze rfl (an (fun b2=>gG ?_));refine aU p ?_;refine ze rfl (zc (kN (m:=1000) hk hl dc) rfl (fun x8=>?_));have htb:=(eM (b.l.drop k) 1000).2;rw[Xe]at htb;refine gG ?_;refine yC ?_ ?_<;>intro h12 p12<;>refine gG ?_
 ·refine Zg ?_;refine aag ?_;have e:tZ (b.l.drop k)=((au (b.l.drop k) 1000).1,.zero):=if_pos (by simpa using h12);rw[e];exact afC
 refine ze rfl (zc (Cu (a:=x8.a) (l:=(au (b.l.drop k) 1000).2.1) (c:=x8.c) om) rfl (fun x16=>gG ?_));refine aag ?_;have e:tZ (b.l.drop k)=eL (au (b.l.drop k) 1000).2.1:=if_neg (by simpa using h12);rw[e];exact afC
theorem I3{a:Option Addr}{l:List UInt8}{c:Nat}[hr:dT w0 H (.slice a l.length c) l](hl:l.length<=4294967296):CT prog w0 (H) 114 [.slice a l.length c] (α:=Unit) (fun _=> .tuple #[.agg (bJ ax.list (k9 l).2).toArray,.int .i64 (k9 l).1]) (fun _=>H):=by
 refine al func114 rfl ntmps114 rfl (gG ?_);refine ze rfl (an (fun b2=>gG ?_));refine ze rfl (zc (lD hl) rfl (fun x13=>?_));refine aV (fun h13=>?_);refine gG ?_;refine aU x13.1 ?_;refine ze rfl (zc (sg (m:=16) (b:=x13.2) (k:=0) (Xv _) (by rw[h13];omega) dc) rfl (fun x16=>?_));rw[XI,XQ];obtain⟨hb1,hb2,hb3⟩:=iV x13.2.l 16;refine gG ?_;refine yC ?_ ?_<;>intro h20 p20<;>try simp only at p20
 ·refine gG ?_;refine ZS ?_;refine aag ?_;have e:k9 l=((ay x13.2.l 16).1,nE):=by
   rw[←h13];unfold k9;exact if_pos abc
  rw[e];exact abu
 have hc0:(ay x13.2.l 16).1=0:=abc;have hc4:=(hZ hc0).2.1;rw[←show ay x13.2.l 16=aq x13.2.l from(hZ hc0).1]at hc4;refine gG ?_;refine ze rfl (an (fun b7=>gG ?_));refine bH [3,8,9,10,11,24,25,26,27,28,29,30,31,32,33,34,35,36,37,38,39,40,41,42,43,44,45,46,47,48,49,50,51,52,53,54,55,56,57,58,59,60] [24,8] (fun us H'=>∃(k:Nat)(q:Nat)(la:Int)(cs:Vector ax 16),us=[.int .i64 (k:Int),.int .i64 la]/\aF x13.1 (.cells (bf.mk x13.2 (q:Int)).cells 192 (0,0))::aF b7 (.cells (bJ ax.list cs).toArray 37 (0,0))::aF b2 (.cells (bJ ax.list nE).toArray 37 (0,0))::row (.slice x13.2.a x13.2.l.length x13.2.c) 5 1 (aE x13.2.l)::H=H'/\k<=(ay x13.2.l 16).2.1/\(q<=x13.2.l.length)/\((jP x13.2.l (ay x13.2.l 16).2.1 (ay x13.2.l 16).2.2 (-1) nE)=jP x13.2.l ((ay x13.2.l 16).2.1-k) q la cs)) (fun us=>match us with| .int _ i::_=>(ay x13.2.l 16).2.1-i.toNat|_=>0) ⟨0,(ay x13.2.l 16).2.2,-1,nE,rfl,rfl,om,hb2,rfl⟩ SB ?_;rintro τ0 _ _ ⟨k,q,la,cs,rfl,rfl,hk0,hat,hi⟩ _;refine gG ?_;refine yC ?_ ?_<;>intro h25 p25<;>try simp only at p25
 ·have hk:k<(ay x13.2.l 16).2.1:=om;rw[show(ay x13.2.l 16).2.1-k=((ay x13.2.l 16).2.1-(k+1))+1 from by omega]at hi;refine gG ?_;refine aU x13.1 ?_;refine ze rfl (zc (kL (b:=x13.2) (k:=q) hat (by rw[h13];omega)) rfl (fun x28=>?_));refine aV (fun h28=>?_);obtain⟨u,qq,ee⟩:=x28;simp only[N5]at h28;have h28u:=u.toNat_lt;refine gG ?_;refine yC ?_ ?_<;>intro h32 p32<;>try simp only at p32
  ·have hs:x13.2.l.length<=q/\ee=1:=by
    rcases h28 with⟨-,-,-,h4⟩|⟨h1,-,-,h4⟩
    · (try simp only at p32);omega
    · exact⟨h1,h4⟩
   obtain⟨hs,rfl⟩:=hs;rw[Jr hs]at hi;refine gG ?_;refine ZS ?_;refine aag ?_;refine Zd ?_;have e:k9 l=(1,nE):=by
    rw[←h13];unfold k9;rw[if_neg abc,hi,if_pos (show ¬(1:Int)=0 by decide)]
   rw[e];exact abu
  obtain⟨hqk,hqu,hqa⟩:q<x13.2.l.length/\u=(x13.2.l.getD q 0)/\qq=q+1:=by
   rcases h28 with⟨h1,h2,h3,-⟩|⟨-,-,-,h4⟩
   · exact⟨h1,h2,h3⟩
   · (try simp only at p32);omega
  subst hqa;refine gG ?_;refine aU x13.1 ?_;refine ze rfl (zc (rm (b:=x13.2) (k:=q+1) om (by rw[h13];omega)) rfl (fun x37=>?_));have hpb:=(bT (x13.2.l.drop (q+1))).2.1;rw[Xe]at hpb;refine gG ?_;refine yC ?_ ?_<;>intro h41 p41<;>try simp only at p41
  ·rw[JM hqk (by simpa using h41)]at hi;refine gG ?_;refine ZS ?_;refine aag ?_;refine Zd ?_;have e:k9 l=((aq (x13.2.l.drop (q+1))).1,nE):=by
    rw[←h13];unfold k9;rw[if_neg abc,hi,if_pos (by simpa using h41)]
   rw[e];exact abu
  have hp0:(aq (x13.2.l.drop (q+1))).1=0:=by simpa using h41
  rw[if_pos hp0];refine gG ?_;refine zq (bF rfl rfl underlying3 aci aci) rfl ?_;refine gG ?_;refine yS 47 ?_ ?_<;>intro h47 p47<;>(try simp only at p47)<;>refine gG ?_
  ·refine aI rfl rfl ?_;rw[zU hqk hp0 aib]at hi;refine gG ?_;refine adi ?_;refine aag ?_;refine Zd ?_;have e:k9 l=(2,nE):=by
    rw[←h13];unfold k9;rw[if_neg abc,hi,if_pos (show ¬(2:Int)=0 by decide)]
   rw[e];exact abu
  refine zq (bF rfl rfl underlying3 aci aci) rfl ?_;refine gG ?_;refine yC ?_ ?_<;>intro h52 p52<;>try simp only at p52
  ·rw[zU hqk hp0 aib]at hi;refine gG ?_;refine adi ?_;refine aag ?_;refine Zd ?_;have e:k9 l=(2,nE):=by
    rw[←h13];unfold k9;rw[if_neg abc,hi,if_pos (show ¬(2:Int)=0 by decide)]
   rw[e];exact abu
  have hk16:u.toNat<16:=om;have hput:bD (bJ ax.list cs).toArray (u.toNat*2) (.agg (ax.mk true (dj (aq (x13.2.l.drop (q+1))).2.1)).cells) _:=me ax.list 2 ax.ae cs u.toNat hk16 (ax.mk true (dj (aq (x13.2.l.drop (q+1))).2.1));have hgo:=IU (n:=(ay x13.2.l 16).2.1-(k+1)) (la:=la) (cs:=cs) hqk hp0 (by rw[←hqu];constructor<;>omega);rw[hgo]at hi;refine gG ?_;refine zq (bF rfl rfl underlying3 aci aci) rfl ?_;refine gG ?_;refine ze rfl (zc (rP) rfl (fun x58=>?_));refine zq (aQ (sz:=2) (u.toNat*2) u.toNat rfl rfl underlying37 rfl rfl ac3 om) rfl ?_;refine acR ?_;exact xl ⟨k+1,(q+1+(aq (x13.2.l.drop (q+1))).2.2),(u.toNat:Int),cs.set u.toNat (ax.mk true (dj (aq (x13.2.l.drop (q+1))).2.1)),rfl,rfl,om,om,by rw[hi];simp only[←hqu]⟩
 have hkn:k=(ay x13.2.l 16).2.1:=om;rw[hkn,Y8]at hi;have hie:(jP x13.2.l (ay x13.2.l 16).2.1 (ay x13.2.l 16).2.2 (-1) nE)=(0,q,cs):=hi.trans DG;refine gG ?_;refine Za ?_;refine aU x13.1 ?_;refine ze rfl (zc (nU (b:=x13.2) (k:=q) hat (by rw[h13];omega)) rfl (fun x62=>gG ?_));refine yC ?_ ?_<;>intro h63 p63<;>try simp only at p63
 ·have hdn:q<x13.2.l.length:=by by_cases hh:q<x13.2.l.length;exact hh;simp[hh]at h63
  refine gG ?_;refine adi ?_;refine aag ?_;have e:k9 l=(2,nE):=by
   rw[←h13];unfold k9;rw[if_neg abc,hie,if_neg (show ¬(0:Int)≠0 by decide),if_pos hdn]
  rw[e];exact abu
 have hdn:¬q<x13.2.l.length:=by intro hh;simp[hh]at h63
 refine gG ?_;refine aag ?_;have e:k9 l=(0,cs):=by
  rw[←h13];unfold k9;rw[if_neg abc,hie,if_neg (show ¬(0:Int)≠0 by decide),if_neg hdn]
 rw[e];exact abu
end
section
variable {l:List UInt8} {s:CI}
theorem hO(l:List UInt8)(i:Nat):ed l (i+1)=gk l i (ed l i):=rfl
theorem M1(l:List UInt8):ed l 0=⟨0,4,{aj.zero with slot:=((bx l 2).2.1:Int),first:=((bx (l.drop 2) 2).2.1:Int)}⟩:=rfl
theorem DB(l:List UInt8):(ed l 0).e=0:=rfl
theorem Ab(l:List UInt8):(ed l 0).q=4:=rfl
theorem AL(h:(au l 1000).1≠0):tZ l=((au l 1000).1,.zero):=if_pos h
theorem AF(h:(au l 1000).1=0):tZ l=eL (au l 1000).2.1:=if_neg om
theorem J1(h0:s.e=0):(gk l 0 s).e=(tZ (l.drop s.q)).1:=by
 by_cases h:(au (l.drop s.q) 1000).1=0
 · rw[uE h0 h,AF h]
 · rw[lR h0 h,AL h]
theorem ID(h0:s.e=0):(gk l 1 s).e=(tZ (l.drop s.q)).1:=by
 by_cases h:(au (l.drop s.q) 1000).1=0
 · rw[uw h0 h,AF h]
 · rw[lR h0 h,AL h]
theorem C8(h:¬(tZ l).1≠0):(au l 1000).1=0:=by
 by_cases h1:(au l 1000).1=0
 · exact h1
 · rw[AL h1]at h;exact absurd h1 h
theorem Ge(h0:s.e=0)(h:¬(tZ (l.drop s.q)).1≠0):gk l 0 s=⟨0,s.q+(au (l.drop s.q) 1000).2.2,{s.w with view:=(tZ (l.drop s.q)).2}⟩:=by
 have h1:=C8 h;have h2:(tZ (l.drop s.q)).1=0:=om;rw[uE h0 h1,←AF h1,h2]
theorem HA(h0:s.e=0)(h:¬(tZ (l.drop s.q)).1≠0):gk l 1 s=⟨0,s.q+(au (l.drop s.q) 1000).2.2,{s.w with fM:=(tZ (l.drop s.q)).2}⟩:=by
 have h1:=C8 h;have h2:(tZ (l.drop s.q)).1=0:=om;rw[uw h0 h1,←AF h1,h2]
attribute [local irreducible] bx au aq ay jP cR ed gk k9 tZ eL
theorem uj{w0:World}{H:List SA}{a:Option Addr}{c:Nat}[hr:dT w0 H (.slice a l.length c) l](hl:l.length<=4294967296):CT prog w0 (H) 63 [.slice a l.length c] (α:=Unit) (fun _=> .tuple #[.agg (cN l).2.cells,.int .i64 (cN l).1]) (fun _=>H):=by
 refine al func63 rfl ntmps63 rfl (gG ?_);refine ze rfl (an (fun b2=>gG ?_));refine ze rfl (zc (lD hl) rfl (fun x20=>?_));refine aV (fun h20=>?_);refine gG ?_;refine ze rfl (an (fun b5=>gG ?_));refine zq (ck #[(.pointer _),(.pointer _)] underlying197 rfl rfl rfl) rfl ?_;refine gG ?_;refine gD (cc ?_);refine gG ?_;refine Ze ?_;refine aae ?_;refine aU x20.1 ?_;refine ze rfl (zc (jW (b:=x20.2) (k:=0) (Xv _) afl (n:=2)) rfl (fun x29=>?_));rw[XI,XQ];have hf1:=fB x20.2.l;refine gG ?_;refine yC ?_ ?_<;>intro h33 p33
 ·obtain⟨hs,h1⟩:=It (l:=x20.2.l) aeJ;rw[h1];refine gG ?_;refine Zg ?_;refine aag ?_;refine Zk ?_;have e:cN l=(1,.zero):=by
   rw[←h20];exact if_pos om
  rw[e];exact aaU
 obtain⟨hL2,hf3⟩:=OZ (l:=x20.2.l) aeJ;rw[hf3];refine gG ?_;refine Zh ?_;refine aaI ?_;refine Zf ?_;refine Ze ?_;refine aae ?_;refine aU x20.1 ?_;refine ze rfl (zc (jW (b:=x20.2) (k:=2) om afl (n:=2)) rfl (fun x29=>?_));have hf2:=fB (x20.2.l.drop 2);refine gG ?_;refine yC ?_ ?_<;>intro h33 p33
 ·obtain⟨hs,h1⟩:=It (l:=x20.2.l.drop 2) aeJ;rw[Xe]at hs;rw[h1];refine gG ?_;refine Zg ?_;refine aag ?_;refine Zk ?_;have e:cN l=(1,.zero):=by
   rw[←h20];exact if_pos om
  rw[e];exact aaU
 obtain⟨hL4,hf4⟩:=OZ (l:=x20.2.l.drop 2) aeJ;rw[Xe]at hL4;rw[hf4,show(2+2:Nat)=4 from rfl];have h4:4<=x20.2.l.length:=om;refine gG ?_;refine Zh ?_;refine aaI ?_;refine Zf ?_;refine Zb ?_;refine Zl ?_;refine zq (ck #[(.pointer _),(.pointer _)] underlying201 rfl rfl rfl) rfl ?_;refine gG ?_;refine gD (cc ?_);refine gG ?_;refine Ze ?_;refine aaf ?_;refine aU x20.1 ?_;refine ze rfl (zc (Cy (b:=x20.2) (k:=4) h4 afl) rfl (fun x49=>gG ?_));refine ze rfl (an (fun b12=>?_));refine aag ?_;refine yC ?_ ?_<;>intro h53 p53
 ·have he1:(ed x20.2.l 1).e=(tZ (x20.2.l.drop 4)).1:=by rw[hO x20.2.l 0,J1 (DB _),Ab]
  have hfin:=kQ (l:=x20.2.l) (i:=1) dc h4 (by rw[he1];simpa using h53);rw[he1]at hfin;refine gG ?_;refine Zg ?_;refine aag ?_;refine Zk ?_;have e:cN l=cN x20.2.l:=by rw[h20]
  rw[e,hfin];exact aaU
 have ok1:ed x20.2.l 1=⟨0,4+(au (x20.2.l.drop 4) 1000).2.2,{(ed x20.2.l 0).w with view:=(tZ (x20.2.l.drop 4)).2}⟩:=by rw[hO x20.2.l 0,Ge (DB _) (by rw[Ab];simpa using h53),Ab]
 have hq1:=vD h4 1;have he1:(ed x20.2.l 1).e=0:=by rw[ok1]
 have hp1:(ed x20.2.l 1).q=4+(au (x20.2.l.drop 4) 1000).2.2:=by rw[ok1]
 rw[←hp1];refine gG ?_;refine acR ?_;refine Zf ?_;refine Ze ?_;refine aaf ?_;refine aU x20.1 ?_;refine ze rfl (zc (Cy (b:=x20.2) (k:=(ed x20.2.l 1).q) hq1 afl) rfl (fun x49=>gG ?_));refine ze rfl (an (fun b12=>?_));refine aag ?_;refine yC ?_ ?_<;>intro h53 p53
 ·have he2:(ed x20.2.l 2).e=(tZ (x20.2.l.drop (ed x20.2.l 1).q)).1:=by rw[hO x20.2.l 1,ID he1]
  have hfin:=kQ (l:=x20.2.l) (i:=2) dc h4 (by rw[he2];simpa using h53);rw[he2]at hfin;refine gG ?_;refine Zg ?_;refine aag ?_;refine Zk ?_;have e:cN l=cN x20.2.l:=by rw[h20]
  rw[e,hfin];exact aaU
 have ok2:ed x20.2.l 2=⟨0,(ed x20.2.l 1).q+(au (x20.2.l.drop (ed x20.2.l 1).q) 1000).2.2,{(ed x20.2.l 1).w with fM:=(tZ (x20.2.l.drop (ed x20.2.l 1).q)).2}⟩:=by rw[hO x20.2.l 1,HA he1 (by simpa using h53)]
 have hq2:=vD h4 2;have he2:(ed x20.2.l 2).e=0:=by rw[ok2]
 have hp2:(ed x20.2.l 2).q=(ed x20.2.l 1).q+(au (x20.2.l.drop (ed x20.2.l 1).q) 1000).2.2:=by rw[ok2]
 rw[←hp2];refine gG ?_;refine acR ?_;refine Zf ?_;refine Zb ?_;refine Zl ?_;refine aU x20.1 ?_;refine ze rfl (zc (kN (m:=1000) (b:=x20.2) (k:=(ed x20.2.l 2).q) hq2 afl dc) rfl (fun x62=>?_));have htb:=(eM (x20.2.l.drop (ed x20.2.l 2).q) 1000).2;rw[Xe]at htb;refine gG ?_;refine yC ?_ ?_<;>intro h66 p66
 ·have he3:(ed x20.2.l 3).e=(au (x20.2.l.drop (ed x20.2.l 2).q) 1000).1:=by rw[hO x20.2.l 2,lR he2 (by simpa using h66)]
  have hfin:=kQ (l:=x20.2.l) (i:=3) dc h4 (by rw[he3];simpa using h66);rw[he3]at hfin;refine gG ?_;refine Zg ?_;refine aag ?_;have e:cN l=cN x20.2.l:=by rw[h20]
  rw[e,hfin];exact aaU
 have hx2:(au (x20.2.l.drop (ed x20.2.l 2).q) 1000).1=0:=by simpa using h66
 have ok3:ed x20.2.l 3=⟨(k9 (au (x20.2.l.drop (ed x20.2.l 2).q) 1000).2.1).1,(ed x20.2.l 2).q+(au (x20.2.l.drop (ed x20.2.l 2).q) 1000).2.2,{(ed x20.2.l 2).w with cs:=(k9 (au (x20.2.l.drop (ed x20.2.l 2).q) 1000).2.1).2}⟩:=by rw[hO x20.2.l 2,An he2 hx2]
 refine gG ?_;refine ze rfl (zc (I3 (a:=x62.a) (l:=(au (x20.2.l.drop (ed x20.2.l 2).q) 1000).2.1) (c:=x62.c) (by have:=congrArg List.length h20;omega)) rfl (fun x71=>gG ?_));refine aag ?_;refine yC ?_ ?_<;>intro h76 p76
 ·have he3:(ed x20.2.l 3).e=(k9 (au (x20.2.l.drop (ed x20.2.l 2).q) 1000).2.1).1:=by rw[ok3]
  have hfin:=kQ (l:=x20.2.l) (i:=3) dc h4 (by rw[he3];simpa using h76);rw[he3]at hfin;refine gG ?_;refine Zg ?_;refine aag ?_;have e:cN l=cN x20.2.l:=by rw[h20]
  rw[e,hfin];exact aaU
 have he3:(ed x20.2.l 3).e=0:=by rw[ok3];simpa using h76
 have hp3:(ed x20.2.l 3).q=(ed x20.2.l 2).q+(au (x20.2.l.drop (ed x20.2.l 2).q) 1000).2.2:=by rw[ok3]
 rw[←hp3];have hwv:(ed x20.2.l 3).w=({slot:=((bx x20.2.l 2).2.1:Int),first:=((bx (x20.2.l.drop 2) 2).2.1:Int),view:=(tZ (x20.2.l.drop 4)).2,fM:=(tZ (x20.2.l.drop (ed x20.2.l 1).q)).2,cs:=(k9 (au (x20.2.l.drop (ed x20.2.l 2).q) 1000).2.1).2,last:=aj.zero.last}:aj):=by rw[ok3,ok2,ok1,M1]
 refine gG ?_;refine bH [3,16,17,18,79,80,81,82,83,84,85,86,87,88,89,90,91,92,93,94,95,96,97,98,99,100,101,102,103] [79] (fun us H'=>∃(k:Nat),us=[.int .i64 (k:Int)]/\aF b5 (.cells (ed x20.2.l (3+k)).w.cells 44 (0,0))::aF b2 (.cells aj.zero.cells 44 (0,0))::aF x20.1 (.cells (bf.mk x20.2 (((ed x20.2.l (3+k)).q:Nat):Int)).cells 192 (0,0))::row (.slice x20.2.a x20.2.l.length x20.2.c) 5 1 (aE x20.2.l)::H=H'/\k<=6/\((ed x20.2.l (3+k)).e=0)) (fun us=>match us with| .int _ i::_=>6-i.toNat|_=>0) ⟨0,rfl,rfl,om,he3⟩ (fun w hw=>by
  rw[show(ed x20.2.l (3+0)).w=({slot:=((bx x20.2.l 2).2.1:Int),first:=((bx (x20.2.l.drop 2) 2).2.1:Int),view:=(tZ (x20.2.l.drop 4)).2,fM:=(tZ (x20.2.l.drop (ed x20.2.l 1).q)).2,cs:=(k9 (au (x20.2.l.drop (ed x20.2.l 2).q) 1000).2.1).2,last:=aj.zero.last}:aj)from hwv];exact SB w hw) ?_
 rintro τ2 _ _ ⟨k,rfl,rfl,hk0,hek⟩ _;refine gG ?_;refine yC ?_ ?_<;>intro h80 p80
 ·have hk6:k<6:=om;have hqk:=vD h4 (3+k);refine gG ?_;refine aU x20.1 ?_;refine ze rfl (zc (kN (m:=1000) (b:=x20.2) (k:=(ed x20.2.l (3+k)).q) hqk afl dc) rfl (fun x84=>?_));have htb:=(eM (x20.2.l.drop (ed x20.2.l (3+k)).q) 1000).2;rw[Xe]at htb;refine gG ?_;refine yC ?_ ?_<;>intro h88 p88
  ·have hek1:(ed x20.2.l (3+k+1)).e=(au (x20.2.l.drop (ed x20.2.l (3+k)).q) 1000).1:=by rw[hO,lR hek (by simpa using h88)]
   have hfin:=kQ (l:=x20.2.l) (i:=3+k+1) om h4 (by rw[hek1];simpa using h88);rw[hek1]at hfin;refine gG ?_;refine Zg ?_;refine aag ?_;refine Zd ?_;have e:cN l=cN x20.2.l:=by rw[h20]
   rw[e,hfin];exact aaU
  have hxk:(au (x20.2.l.drop (ed x20.2.l (3+k)).q) 1000).1=0:=by simpa using h88
  have okk:ed x20.2.l (3+k+1)=⟨(cR (au (x20.2.l.drop (ed x20.2.l (3+k)).q) 1000).2.1).1,(ed x20.2.l (3+k)).q+(au (x20.2.l.drop (ed x20.2.l (3+k)).q) 1000).2.2,{(ed x20.2.l (3+k)).w with last:=(ed x20.2.l (3+k)).w.last.set k (cR (au (x20.2.l.drop (ed x20.2.l (3+k)).q) 1000).2.1).2}⟩:=by rw[hO,Ak hk6 hek hxk]
  refine gG ?_;refine ze rfl (zc (D2 (a:=x84.a) (l:=(au (x20.2.l.drop (ed x20.2.l (3+k)).q) 1000).2.1) (c:=x84.c) (by have:=congrArg List.length h20;omega)) rfl (fun x94=>?_));have hput:=wu (ed x20.2.l (3+k)).w k hk6 (cR (au (x20.2.l.drop (ed x20.2.l (3+k)).q) 1000).2.1).2;refine gG ?_;refine zq (zf 38 rfl rfl) rfl (zq (aQ (sz:=5) (38+k*5) k rfl rfl underlying42 rfl rfl (by rw[XO];exact hk6) rfl) rfl ?_);refine aag ?_;refine yC ?_ ?_<;>intro h100 p100
  ·have hek1:(ed x20.2.l (3+k+1)).e=(cR (au (x20.2.l.drop (ed x20.2.l (3+k)).q) 1000).2.1).1:=by rw[okk]
   have hfin:=kQ (l:=x20.2.l) (i:=3+k+1) om h4 (by rw[hek1];simpa using h100);rw[hek1]at hfin;refine gG ?_;refine Zg ?_;refine aag ?_;refine Zd ?_;have e:cN l=cN x20.2.l:=by rw[h20]
   rw[e,hfin];exact aaU
  have hek1:(ed x20.2.l (3+k+1)).e=0:=by rw[okk];simpa using h100
  have hpk:(ed x20.2.l (3+k+1)).q=(ed x20.2.l (3+k)).q+(au (x20.2.l.drop (ed x20.2.l (3+k)).q) 1000).2.2:=by rw[okk]
  rw[←hpk];have hwk:(ed x20.2.l (3+k+1)).w= {(ed x20.2.l (3+k)).w with last:=(ed x20.2.l (3+k)).w.last.set k (cR (au (x20.2.l.drop (ed x20.2.l (3+k)).q) 1000).2.1).2}:=by rw[okk]
  refine gA ?_;apply bW
  case ha=>exact aff
  case hI=>exact⟨k+1,rfl,rfl,om,hek1⟩
  case hm=>exact by show 6-(k+1:Int).toNat<6-(k:Int).toNat;omega
  case hH=>exact(fun w hw=>by
                rw[show(ed x20.2.l (3+(k+1))).w= {(ed x20.2.l (3+k)).w with last:=(ed x20.2.l (3+k)).w.last.set k (cR (au (x20.2.l.drop (ed x20.2.l (3+k)).q) 1000).2.1).2}from hwk];exact SB w hw)
 obtain rfl:k=6:=om;have hq9:=vD h4 (3+6);refine gG ?_;refine Za ?_;refine aU x20.1 ?_;refine ze rfl (zc (nU (b:=x20.2) (k:=(ed x20.2.l (3+6)).q) hq9 afl) rfl (fun x105=>gG ?_));refine yC ?_ ?_<;>intro h106 p106
 ·have hdn:(ed x20.2.l (3+6)).q<x20.2.l.length:=by by_cases hh:(ed x20.2.l (3+6)).q<x20.2.l.length;exact hh;simp[hh]at h106
  refine gG ?_;refine aaC ?_;refine aag ?_;have e:cN l=(2,.zero):=by
   rw[←h20];unfold cN;rw[if_neg om,if_neg aim,if_pos hdn]
  rw[e];exact aaU
 have hdn:¬(ed x20.2.l (3+6)).q<x20.2.l.length:=by intro hh;simp[hh]at h106
 refine gG ?_;refine aag ?_;have e:cN l=(0,(ed x20.2.l (3+6)).w):=by
  rw[←h20];unfold cN;rw[if_neg om,if_neg aim,if_neg hdn]
 rw[e];exact aaU
attribute [local irreducible] cN
end
section
theorem Ss{l:List UInt8}{q:Nat}(h:¬(bx (l.drop q) 1).1≠0):q<l.length/\(bx (l.drop q) 1).2.1=(l.getD q 0).toNat:=by
 rcases X7 q l.length with hs|hs
 · exact⟨hs,by rw[oN hs]⟩
 · rw[pn om]at h;exact absurd (show((1:Int),0,0).1≠0 by decide) h
theorem Pm{l:List UInt8}{q:Nat}(h:(bx (l.drop q) 1).1≠0):l.length<=q/\(bx (l.drop q) 1).1=1:=by
 rcases X7 q l.length with hs|hs
 · rw[oN hs]at h;exact absurd rfl h
 · exact⟨hs,by rw[pn om]⟩
structure eP where
 c:Vector ax 16
 e:Int
def eP.list(v:eP):List Value:=bJ ax.list v.c++[.int .i64 v.e]
def eP.cells(v:eP):Array Value:=v.list.toArray
theorem eP.ae(v:eP):v.list.length=33:=by simp only[eP.list,WX,dO _ 2 ax.ae,XB]
theorem eP.aS(v:eP):v.list.all Value.oneCell'=true:=by
 simp only[eP.list,List.all_append,mQ _ ax.aS];rfl
instance Wu{v:eP}:Cells v.cells 33:=Cells.list v.ae v.aS
theorem eP.size(v:eP):v.cells.size=33:=by simp[eP.cells,eP.ae]
instance Wx{v:eP}:dh v.cells 0 33 v.cells:=⟨by have h:=v.size;apply XX<;>simp[h]⟩
instance WR{v u:eP}:bD v.cells 0 (.agg u.cells) u.cells:=⟨by have:=fN [] v.list [] (v:= .agg u.cells) (o:=0) (n:=33) rfl v.ae u.size;simpa[eP.cells,Value.cells]using this,by simp[Value.cells,eP.size]⟩
instance WA{v:eP}:dh v.cells 0 32 (bJ ax.list v.c).toArray:=⟨by have:=fP ([]:List Value) (bJ ax.list v.c) [.int .i64 v.e] (o:=0) (n:=32) rfl (dO _ 2 ax.ae v.c);simpa[eP.cells,eP.list]using this⟩
instance Wz{v:eP}:aw v.cells 32 (.int .i64 v.e):=⟨by
 have h:=dO _ 2 ax.ae v.c;simp[eP.cells,eP.list,WY,h]⟩
@[reducible] def eP.zero:eP:=⟨nE,0⟩
instance WT:lT prog 268 (.agg eP.zero.cells):=⟨kr⟩
theorem G2(v:eP)(i:Nat)(hi:i<16)(u:ax):bD v.cells (i*2) (.agg u.cells) ({v with c:=v.c.set i u}:eP).cells:=by
 have:=bD.fr ((bJ ax.list v.c).take (i*2)) (ax.list v.c[i]) ((bJ ax.list v.c).drop ((i+1)*2)++[.int .i64 v.e]) (cs:=v.cells) (o:=i*2) (n:=2) (v:= .agg u.cells)
   (by rw[eP.cells,eP.list];(conv=>lhs;rw[oq ax.list 2 ax.ae v.c i hi]);simp only[W4]) (rQ ax.list 2 ax.ae v.c i hi) (ax.ae _) u.size
 rw[show({v with c:=v.c.set i u}:eP).cells=(bJ ax.list (v.c.set i u)++[Value.int .i64 v.e]).toArray from rfl,pj ax.list 2 ax.ae v.c i hi u];simpa[Value.cells,ax.cells]using this
instance WU{v:eP}{u:Int}:bD v.cells 32 (.int .i64 u) ({v with e:=u}:eP).cells:=by
 have:=bD.fr (bJ ax.list v.c) [.int .i64 v.e] ([]:List Value) (cs:=v.cells) (o:=32) (n:=1) (v:= .int .i64 u) (by simp[eP.cells,eP.list]) (dO _ 2 ax.ae v.c) rfl rfl;simpa[eP.cells,eP.list,Value.cells]using this
theorem pW{l:List UInt8}{i:Nat}(h:i<l.length):l.getD i 0=l[i]:=by rw[Xy,WW h];rfl
instance T5{v:cG}{u:Int}:bD v.cells 0 (.int .i64 u) {v with w:= {v.w with slot:=u}}.cells:=by
 have:=bD.fr ([]:List Value) v.w.p0 (v.w.p1++(v.w.view.list++(v.w.fM.list++(v.w.p4++(v.w.p5++[.int .i64 v.e]))))) (cs:=v.cells) (o:=0) (n:=1) (v:= .int .i64 u) (by simp only[cG.cells,cG.list,aj.list,W4,Xh]) rfl rfl rfl;simpa[cG.cells,cG.list,aj.list,Value.cells]using this
instance TG{v:cG}{u:Int}:bD v.cells 1 (.int .i64 u) {v with w:= {v.w with first:=u}}.cells:=by
 have:=bD.fr v.w.p0 v.w.p1 (v.w.view.list++(v.w.fM.list++(v.w.p4++(v.w.p5++[.int .i64 v.e])))) (cs:=v.cells) (o:=1) (n:=1) (v:= .int .i64 u) ad3 rfl rfl rfl;simpa[cG.cells,cG.list,aj.list,Value.cells]using this
instance UX{v:cG}{u:aH}:bD v.cells 2 (.agg u.cells) {v with w:= {v.w with view:=u}}.cells:=by
 have:=bD.fr (v.w.p0++v.w.p1) v.w.view.list (v.w.fM.list++(v.w.p4++(v.w.p5++[.int .i64 v.e]))) (cs:=v.cells) (o:=2) (n:=2) (v:= .agg u.cells) ad3 rfl v.w.view.ae u.size;simpa[cG.cells,cG.list,aj.list,Value.cells,aH.cells]using this
instance Uw{v:cG}{u:aH}:bD v.cells 4 (.agg u.cells) {v with w:= {v.w with fM:=u}}.cells:=by
 have:=bD.fr (v.w.p0++(v.w.p1++v.w.view.list)) v.w.fM.list (v.w.p4++(v.w.p5++[.int .i64 v.e])) (cs:=v.cells) (o:=4) (n:=2) (v:= .agg u.cells) ad3 afQ v.w.fM.ae u.size;simpa[cG.cells,cG.list,aj.list,Value.cells,aH.cells]using this
instance Uc{v:cG}{u:Vector ax 16}:bD v.cells 6 (.agg (bJ ax.list u).toArray) {v with w:= {v.w with cs:=u}}.cells:=by
 have:=bD.fr (v.w.p0++(v.w.p1++(v.w.view.list++v.w.fM.list))) v.w.p4 (v.w.p5++[.int .i64 v.e]) (cs:=v.cells) (o:=6) (n:=32) (v:= .agg (bJ ax.list u).toArray) ad3 afQ v.w.l4 agu;simpa[cG.cells,cG.list,aj.list,Value.cells]using this
theorem GQ(v:cG)(k:Nat)(hk:k<6)(u:ar):bD v.cells (38+k*5) (.agg u.cells) ({v with w:= {v.w with last:=v.w.last.set k u}}:cG).cells:=by
 have:=bD.fr (v.w.p0++(v.w.p1++(v.w.view.list++(v.w.fM.list++(v.w.p4++v.w.p5.take (k*5)))))) v.w.last[k].list (v.w.p5.drop ((k+1)*5)++[.int .i64 v.e]) (cs:=v.cells) (o:=38+k*5) (n:=5) (v:= .agg u.cells)
   (by rw[cG.cells,cG.list,aj.list];(conv=>lhs;rw[show v.w.p5=_ from oq ar.list 5 ar.ae v.w.last k hk]);simp only[W4])
   (by simp only[WX,aH.ae,v.w.l4,rQ ar.list 5 ar.ae v.w.last k hk,XB];omega) (ar.ae _) u.size
 simpa[cG.cells,cG.list,aj.list,Value.cells,ar.cells,pj ar.list 5 ar.ae v.w.last k hk u]using this
theorem HY{l:List UInt8}{i:Nat}{s:CI}(hi:i=0)(h0:s.e=0)(h:(au (l.drop s.q) 1000).1=0):gk l i s=⟨(eL (au (l.drop s.q) 1000).2.1).1,s.q+(au (l.drop s.q) 1000).2.2,{s.w with view:=(eL (au (l.drop s.q) 1000).2.1).2}⟩:=by subst hi;exact uE h0 h
theorem Kd{l:List UInt8}{i:Nat}{s:CI}(hi:i=1)(h0:s.e=0)(h:(au (l.drop s.q) 1000).1=0):gk l i s=⟨(eL (au (l.drop s.q) 1000).2.1).1,s.q+(au (l.drop s.q) 1000).2.2,{s.w with fM:=(eL (au (l.drop s.q) 1000).2.1).2}⟩:=by subst hi;exact uw h0 h
theorem IP{l:List UInt8}{i:Nat}{s:CI}(hi:i=2)(h0:s.e=0)(h:(au (l.drop s.q) 1000).1=0):gk l i s=⟨(k9 (au (l.drop s.q) 1000).2.1).1,s.q+(au (l.drop s.q) 1000).2.2,{s.w with cs:=(k9 (au (l.drop s.q) 1000).2.1).2}⟩:=by subst hi;exact An h0 h
theorem I7{l:List UInt8}{i:Nat}{s:CI}(h3:3<=i)(h9:i<9)(h0:s.e=0)(h:(au (l.drop s.q) 1000).1=0):gk l i s=⟨(cR (au (l.drop s.q) 1000).2.1).1,s.q+(au (l.drop s.q) 1000).2.2,{s.w with last:=s.w.last.set (i-3) (cR (au (l.drop s.q) 1000).2.1).2 om}⟩:=by
 obtain⟨k,rfl⟩:∃k,i=3+k:=⟨i-3,om⟩;rw[Ak (show k<6 by omega) h0 h];simp only[Nat.add_sub_cancel_left]
theorem Cj{w0:World}{H:List SA}{a:Option Addr}{l:List UInt8}{c:Nat}[hr:dT w0 H (.slice a l.length c) l](hl:l.length<=4294967296):CT prog w0 (H) 166 [.slice a l.length c] (α:=Unit) (fun _=> .tuple #[.agg (cR l).2.cells,.int .i64 (cR l).1]) (fun _=>H):=by
 refine al func166 rfl ntmps166 rfl (gG ?_);refine ze rfl (an (fun b2=>gG ?_));refine yC ?_ ?_<;>intro h7 p7
 ·refine gG ?_;refine aaC ?_;refine aag ?_;have e:cR l=(1,.zero):=by unfold cR;exact if_pos om
  rw[e];exact ab1
 have h4:4<=l.length:=om;have q0:0<l.length:=om;have q1:1<l.length:=om;have q2:2<l.length:=om;have q3:3<l.length:=om;have hb0:=(l[0]'q0).toNat_lt;have hb1:=(l[1]'q1).toNat_lt;have hb2:=(l[2]'q2).toNat_lt;have hb3:=(l[3]'q3).toNat_lt;refine gG ?_;refine ze rfl (zc (jO (k:=4) om hl) rfl (fun x10=>?_));obtain⟨P,hP⟩:∃P,P=aq (l.drop 4):=⟨_,rfl⟩;have hP2:=(bT (l.drop 4)).2.1;have hP3:=(bT (l.drop 4)).2.2;rw[Xe]at hP2;rw[←hP]at hP2 hP3 ⊢;refine ze rfl (an (fun b4=>?_));refine aag ?_;refine yC ?_ ?_<;>intro h13 p13<;>refine gG ?_
 ·refine dw (aF b4 (.cells (cS.mk (P.2.1:Int) ⟨none,0,[]⟩ (P.2.2:Int) P.1).cells 245 (0,0))::H) [(0,true),(1,true),(2,true),(3,false),(4,true)] (fun hns0=>?_);refine zd hns0 rfl (aA [] rfl kr) rfl ?_;refine gA ?_;refine aaE ?_;have e:cR l=(P.1,.zero):=by unfold cR;rw[if_neg om,←hP,if_pos p13]
  rw[e];exact ab1
 refine zq (bj rfl rfl om so) rfl (zq (bC (.int .u8 ((l[3]'q3).toNat:Int)) rfl (eO _ _ q3)) rfl ?_);refine gG ?_;refine yS 21 ?_ ?_<;>intro h21 p21
 ·refine gG ?_;refine Zc ?_;refine aaC ?_;refine aag ?_;have e:cR l=(2,.zero):=agZ;rw[e];exact ab1
 refine gA ?_;refine yC ?_ ?_<;>intro h28 p28<;>refine gG ?_
 ·refine aaC ?_;refine aag ?_;have e:cR l=(2,.zero):=agZ;rw[e];exact ab1
 refine dw (aF b4 (.cells (cS.mk (P.2.1:Int) ⟨none,0,[]⟩ (P.2.2:Int) P.1).cells 245 (0,0))::H) [(0,true),(1,true),(2,true),(3,true),(4,true),(5,true),(6,true),(7,true),(8,true),(9,true),(10,true),(11,true),(12,true),(13,true),(14,true),(15,true),(16,true),(17,true),(18,false),(19,true),(20,true),(21,false),(22,true)] (fun hns1=>?_);refine zd hns1 rfl (zm (.slice _ _ _) rfl) rfl (zd hns1 rfl (bj rfl rfl om so) rfl (zd hns1 rfl (bC (.int .u8 ((l[0]'q0).toNat:Int)) rfl (eO _ _ q0)) rfl (zd hns1 rfl (bF rfl rfl underlying3 om om) rfl (zd hns1 rfl (zm (.slice _ _ _) rfl) rfl (zd hns1 rfl (bj rfl rfl om so) rfl (zd hns1 rfl (bC (.int .u8 ((l[1]'q1).toNat:Int)) rfl (eO _ _ q1)) rfl (zd hns1 rfl (bF rfl rfl underlying3 om om) rfl ?_)))))));refine zd hns1 rfl (zm (.slice _ _ _) rfl) rfl (zd hns1 rfl (bj rfl rfl om so) rfl (zd hns1 rfl (bC (.int .u8 ((l[2]'q2).toNat:Int)) rfl (eO _ _ q2)) rfl (zd hns1 rfl (bF rfl rfl underlying3 om om) rfl (zd hns1 rfl (zm (.slice _ _ _) rfl) rfl (zd hns1 rfl (bj rfl rfl om so) rfl (zd hns1 rfl (bC (.int .u8 ((l[3]'q3).toNat:Int)) rfl (eO _ _ q3)) rfl ?_))))));refine gA ?_;refine cX rfl rfl (zc (qb hP3) rfl (fun x48=>⟨SB,?_⟩));refine zd hns1 rfl (aA [(0,(.bool _)),(1,(.int .i64 _))] rfl kr) rfl (zd hns1 rfl (aA [(0,(.int .i64 _)),(1,(.int .i64 _)),(2,(.int .i64 _)),(3,(.agg _))] rfl kr) rfl ?_);refine aaE ?_
 have e:cR l=((0:Int),ar.mk (l[0]'q0).toNat (l[1]'q1).toNat (l[2]'q2).toNat (cI.mk (decide (((l[3]'q3).toNat:Int)=1)) (dj P.2.1))):=by unfold cR;rw[if_neg om,←hP,if_neg om,pW q0,pW q1,pW q2,pW q3,if_neg om]
 rw[e];exact ab1
attribute [local irreducible] bx au aq ay jP cR ed gk k9 tZ eL cN
theorem B8{w0:World}{H:List SA}{a:Option Addr}{l:List UInt8}{c:Nat}[hr:dT w0 H (.slice a l.length c) l](hl:l.length<=4294967296):CT prog w0 (H) 164 [.slice a l.length c] (α:=Unit) (fun _=> .tuple #[.agg (eL l).2.cells,.int .i64 (eL l).1]) (fun _=>H):=by
 refine al func164 rfl ntmps164 rfl (gG ?_);refine ze rfl (an (fun b2=>gG ?_));refine yC ?_ ?_<;>intro h7 p7<;>refine gG ?_
 ·refine aaC ?_;refine aag ?_;have e:eL l=(1,.zero):=by unfold eL;exact if_pos om
  rw[e];exact acB
 refine ze rfl (zc (jB (k:=0) om hl (n:=2)) rfl (fun x10=>?_));rw[XI];have hf1:=fB l;refine ZT ?_;refine ze rfl (zc (jB (k:=2) om hl (n:=2)) rfl (fun x14=>?_));have hf2:=fB (l.drop 2);refine zq (iU (ft:=58) rfl rfl) rfl (zq (bV rfl rfl underlying31) rfl ?_);rw[kM .u16 rfl afN];refine acM ?_;refine ze rfl (an (fun b4=>?_));refine aag ?_;refine yS 21 ?_ ?_<;>intro h21 p21<;>refine gG ?_
 ·refine Zc ?_;refine aaC ?_;refine aag ?_;have e:eL l=(2,.zero):=aeX;rw[e];exact acB
 refine ze rfl (zc (sr (num:=((bx l 2).2.1:Int)) (mk:=(bx (l.drop 2) 2).2.1) om) rfl (fun x23=>gG ?_));refine yC ?_ ?_<;>intro h25 p25<;>refine gG ?_
 ·refine aaC ?_;refine aag ?_;have e:eL l=(2,.zero):=aeX;rw[e];exact acB
 refine aag ?_;have e:eL l=(0,⟨((bx l 2).2.1:Int),((bx (l.drop 2) 2).2.1:Int)⟩):=by unfold eL;rw[if_neg om,if_neg (by rintro(h|h);omega;rw[h]at h25;cases h25)]
 rw[e];exact acB
theorem Ji{w0:World}{H:List SA}{a:Option Addr}{l:List UInt8}{c:Nat}[hr:dT w0 H (.slice a l.length c) l](hl:l.length<=4294967296):CT prog w0 (H) 165 [.slice a l.length c] (α:=Unit) (fun _=> .agg (eP.mk (k9 l).2 (k9 l).1).cells) (fun _=>H):=by
 refine al func165 rfl ntmps165 rfl (gG ?_);refine ze rfl (an (fun b2=>gG ?_));refine ze rfl (zc (nM (k:=0) (m:=16) om hl dc dc) rfl (fun x11=>?_));rw[XI];obtain⟨hb1,hb2,hb3⟩:=iV l 16;refine ze rfl (an (fun b3=>?_));refine aag ?_;refine yC ?_ ?_<;>intro h14 p14
 ·refine gG ?_;refine aaD ?_;refine aag ?_;have e:k9 l=((ay l 16).1,nE):=by unfold k9;exact if_pos aeh
  rw[e];exact abA
 have hc0:(ay l 16).1=0:=aeh;have hc4:=(hZ hc0).2.1;rw[←show ay l 16=aq l from(hZ hc0).1]at hc4;refine gG ?_;refine zq (bI (aA [] rfl kr) (show _=Value.agg eP.zero.cells from rfl)) rfl ?_;refine ze rfl (an (fun b4=>?_));refine aag ?_;refine bH [5,6,7,8,9,21,22,23,24,25,26,27,28,29,30,31,32,33,34,35,36,37,38,39,40,41,42,43,44,45,46,47,48,49,50,51,52,53,54,55,56,57,58,59,60,61,62,63,64,65,66,67,68,69,70,71,72,73] [7,5,6] (fun us H'=>∃(k:Nat)(q:Nat)(la:Int)(cs:Vector ax 16),us=[.int .i64 (k:Int),.int .i64 (q:Int),.int .i64 la]/\aF b4 (.cells (eP.mk cs 0).cells 268 (0,0))::aF b3 (.cells (cS.mk ((ay l 16).2.1:Int) ⟨none,0,[]⟩ ((ay l 16).2.2:Int) (ay l 16).1).cells 245 (0,0))::aF b2 (.cells eP.zero.cells 268 (0,0))::H=H'/\k<=(ay l 16).2.1/\(q<=l.length)/\((jP l (ay l 16).2.1 (ay l 16).2.2 (-1) nE)=jP l ((ay l 16).2.1-k) q la cs)) (fun us=>match us with| .int _ i::_=>(ay l 16).2.1-i.toNat|_=>0) ⟨0,(ay l 16).2.2,-1,nE,rfl,rfl,om,hb2,rfl⟩ SB ?_;rintro τ0 _ _ ⟨k,q,la,cs,rfl,rfl,hk0,hat,hi⟩ _;refine gG ?_;refine Zh ?_;refine yC ?_ ?_<;>intro h25 p25
 ·have hk:k<(ay l 16).2.1:=om;rw[show(ay l 16).2.1-k=((ay l 16).2.1-(k+1))+1 from by omega]at hi;have hu8:=(l.getD q 0).toNat_lt;refine gG ?_;refine ze rfl (zc (jB (k:=q) hat hl (n:=1)) rfl (fun x30=>?_));refine ze rfl (an (fun b8=>?_));refine aag ?_;refine yC ?_ ?_<;>intro h33 p33
  ·obtain⟨hs,h1⟩:=Pm (l:=l) (q:=q) aeJ;rw[h1];rw[Jr hs]at hi;refine gG ?_;refine aaD ?_;refine aag ?_;refine Zd ?_;have e:k9 l=(1,nE):=by unfold k9;rw[if_neg aeh,hi,if_pos (show ¬(1:Int)=0 by decide)]
   rw[e];exact abA
  obtain⟨hqk,hfx⟩:=Ss (l:=l) (q:=q) aeJ;rw[hfx];refine gA ?_;rw[show(q:Int)+1=((q+1:Nat):Int)from by omega];refine ze rfl (zc (jO (k:=q+1) om hl) rfl (fun x40=>?_));have hpb:=(bT (l.drop (q+1))).2.1;rw[Xe]at hpb;refine ze rfl (an (fun b9=>?_));refine aag ?_;refine yC ?_ ?_<;>intro h43 p43
  ·rw[JM hqk (by simpa using h43)]at hi;refine gG ?_;refine aaD ?_;refine aag ?_;refine Zd ?_;have e:k9 l=((aq (l.drop (q+1))).1,nE):=by unfold k9;rw[if_neg aeh,hi,if_pos (by simpa using h43)]
   rw[e];exact abA
  have hp0:(aq (l.drop (q+1))).1=0:=by simpa using h43
  refine gG ?_;refine Zh ?_;refine yS 51 ?_ ?_<;>intro h51 p51<;>refine gG ?_
  ·refine aI rfl rfl ?_;rw[zU hqk hp0 (by first|(left;omega)|(right;omega))]at hi;refine gG ?_;refine aaD ?_;refine aag ?_;refine Zd ?_;have e:k9 l=(2,nE):=afg;rw[e];exact abA
  refine Zh ?_;refine yC ?_ ?_<;>intro h57 p57
  ·rw[zU hqk hp0 (by first|(left;omega)|(right;omega))]at hi;refine gG ?_;refine aaD ?_;refine aag ?_;refine Zd ?_;have e:k9 l=(2,nE):=afg;rw[e];exact abA
  have hk16:(l.getD q 0).toNat<16:=om;have hput:bD (eP.mk cs 0).cells ((l.getD q 0).toNat*2) (.agg (ax.mk true (dj (aq (l.drop (q+1))).2.1)).cells) _:=G2 (eP.mk cs 0) (l.getD q 0).toNat hk16 (ax.mk true (dj (aq (l.drop (q+1))).2.1));have hgo:=IU (n:=(ay l 16).2.1-(k+1)) (la:=la) (cs:=cs) hqk hp0 (by constructor<;>omega);rw[hgo]at hi;refine gG ?_;refine Zh ?_;refine ze rfl (zc (qb (x:=(aq (l.drop (q+1))).2.1) (bT _).2.2) rfl (fun x65=>?_));refine zq (bI (aA [(0,.bool _),(1,.int .i64 _)] rfl kr) (show _=Value.agg (ax.mk true (dj (aq (l.drop (q+1))).2.1)).cells from rfl)) rfl ?_;refine gG ?_;refine zq (aQ (sz:=2) ((l.getD q 0).toNat*2) (l.getD q 0).toNat rfl rfl underlying37 rfl rfl ac3 om) rfl ?_;refine aa1 ?_;refine zz (zx (zR (zq (zm (.int .i64 _) rfl) rfl (zq (zf 2 rfl rfl) rfl (zq (zl rfl) rfl ?_)))))
  first|refine yP rfl rfl ?_|refine zq (bU rfl rfl) rfl ?_
  rw[show(1:Int)+(((aq (l.drop (q+1))).2.2:Nat):Int)=((1+(aq (l.drop (q+1))).2.2:Nat):Int)from by omega]
  first|refine yP rfl rfl ?_|refine zq (bU rfl rfl) rfl ?_
  rw[show(q:Int)+((1+(aq (l.drop (q+1))).2.2:Nat):Int)=((q+1+(aq (l.drop (q+1))).2.2:Nat):Int)from by omega];refine gA ?_;exact xl ⟨k+1,(q+1+(aq (l.drop (q+1))).2.2),((l.getD q 0).toNat:Int),cs.set (l.getD q 0).toNat (ax.mk true (dj (aq (l.drop (q+1))).2.1)),rfl,rfl,om,om,hi⟩
 have hkn:k=(ay l 16).2.1:=om;rw[hkn,Y8]at hi;have hie:(jP l (ay l 16).2.1 (ay l 16).2.2 (-1) nE)=(0,q,cs):=hi.trans DG;refine gG ?_;refine Za ?_;refine yC ?_ ?_<;>intro h77 p77<;>refine gG ?_
 ·refine aaD ?_;refine aag ?_;have e:k9 l=(2,nE):=by unfold k9;rw[if_neg aeh,hie,if_neg (show ¬(0:Int)≠0 by decide),if_pos (by show q<l.length;omega)]
  rw[e];exact abA
 refine aag ?_;have e:k9 l=(0,cs):=by unfold k9;rw[if_neg aeh,hie,if_neg (show ¬(0:Int)≠0 by decide),if_neg (by show ¬q<l.length;omega)]
 rw[e];exact abA
end
end Go.Proofs.YtmbfimckmfnnjaaGreatDoor
