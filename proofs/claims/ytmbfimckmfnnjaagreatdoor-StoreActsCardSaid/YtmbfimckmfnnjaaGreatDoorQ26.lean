/- Steps of the proof of a law. -/
import Derived.Test.YtmbfimckmfnnjaaGreatDoorQ18
import Derived.Test.YtmbfimckmfnnjaaGreatDoorQ24
import Derived.Test.YtmbfimckmfnnjaaGreatDoorQ25
set_option maxRecDepth 100000
set_option maxHeartbeats 1000000
set_option linter.unusedSimpArgs false
set_option linter.unusedVariables false
namespace Go.Proofs.YtmbfimckmfnnjaaGreatDoor
open Go.RowKit Go.Sx Go.Proofs.Tryz
section
variable {w0:World} {H:List SA}
theorem AR{x:Int}(hx: -9223372036854775808<=x/\x<=9223372036854775807):CT prog w0 (H) 236 [.int .i64 x] (α:=Unit) (fun _=> .int .u64 (eW x:Int)) (fun _=>H):=by
 refine al func236 rfl ntmps236 rfl (gG ?_);refine yC ?_ ?_<;>intro h4 p4<;>refine gG ?_
 ·refine zq (bU rfl rfl) rfl (zq (z7 rfl) rfl (zq (bV rfl rfl underlying58) rfl (zq (gq rfl rfl) rfl (zq (bU rfl rfl) rfl ?_))));refine gG ?_;exact zX () [.int .u64 (eW x:Int)] results236 ⟨congrArg (Value.int .u64) (Ko hx.1 om),trivial⟩ rfl SB
 refine zq (bV rfl rfl underlying58) rfl (zq (gq rfl rfl) rfl ?_);refine gG ?_;exact zX () [.int .u64 (eW x:Int)] results236 ⟨congrArg (Value.int .u64) (J5 hx.2 om),trivial⟩ rfl SB
theorem uv(l:List UInt8)(i:Nat)(h:i<l.length):(aE l)[i]? =some (.int .u8 ((l.getD i 0).toNat:Int)):=by
 rw[Xy,WW h];exact eO _ _ h
attribute [local irreducible] fH fF bh
theorem qb{x:Nat}(hx:x<18446744073709551616):CT prog w0 (H) 235 [.int .u64 (x:Int)] (α:=Unit) (fun _=> .int .i64 (dj x)) (fun _=>H):=by
 refine al func235 rfl ntmps235 rfl (gG ?_);refine zq (bI (mc rfl rfl dc) (congrArg (Value.int .u64) (mD x 2))) rfl ?_;refine gG ?_;refine yC ?_ ?_<;>intro h5 p5<;>refine gG ?_
 ·refine zq (bI (qG rfl rfl dc) (congrArg (Value.int .u64) (rh x 2 dc hx))) rfl (zq (bF rfl rfl underlying2 om om) rfl (zq (bI (z7 rfl) (congrArg (Value.int .i64) (show IntKind.i64.wrap (0-((x/2:Nat):Int))= -((x/2:Nat):Int)from by rw[wrap_i64 om om];omega))) rfl ?_));refine gA ?_;have e:dj x= -((x/2:Nat):Int)-1:=if_pos om;exact age
 refine zq (bI (qG rfl rfl dc) (congrArg (Value.int .u64) (rh x 2 dc hx))) rfl (zq (bF rfl rfl underlying2 om om) rfl ?_);refine gG ?_;have e:dj x=((x/2:Nat):Int):=if_neg om;exact age
theorem Jh{a:Option Addr}{l:List UInt8}{c:Nat}[hr:dT w0 H (.slice a l.length c) l](hl:l.length<=4294967296):CT prog w0 (H) 227 [.slice a l.length c] (α:=aJ) (fun y=> .agg (dV.mk y (fC l).1).cells) (fun y=>pu (((fC l).1=0->y.abs=(fC l).2/\y.sig=⟨none,0,[]⟩)/\((fC l).1≠0->y=aJ.zero))::H):=by
 refine al func227 rfl ntmps227 rfl (gG ?_);refine ze rfl (an (fun b2=>gG ?_));refine yC ?_ ?_<;>intro h8 p8
 ·refine gG ?_;refine aaD ?_;refine aag ?_;obtain⟨d,e⟩:∃d,fC l=(1,d):=⟨_,by unfold fC;exact if_pos om⟩;rw[e];exact zX aJ.zero [_] results227 ⟨⟨_,rfl,ak rfl⟩,trivial⟩ rfl (fun w hw=>(SB w hw:St w0 H w).aC ⟨fun h=>absurd h (show ¬((1:Int)=0) by decide),fun _=>rfl⟩)
 have hl4:4<=l.length:=om;have hb0:=uv l 0 om;have hb1:=uv l 1 om;have hb2:=uv l 2 om;have hb3:=uv l 3 om;have hn0:=(l.getD 0 0).toNat_lt;have hn1:=(l.getD 1 0).toNat_lt;have hn2:=(l.getD 2 0).toNat_lt;have hn3:=(l.getD 3 0).toNat_lt;refine gG ?_;refine dw H [(0,true),(1,true),(2,true),(3,true),(4,true),(5,true),(6,true),(7,true),(8,true),(9,false),(10,false)] (fun hns0=>?_);refine zd hns0 rfl (zm (.slice _ _ _) rfl) rfl (zd hns0 rfl (bj rfl rfl om so) rfl (zd hns0 rfl (bC (.int .u8 ((l.getD 0 0).toNat:Int)) rfl (hb0)) rfl (zd hns0 rfl (bF rfl rfl underlying3 om om) rfl (zd hns0 rfl (zm (.slice _ _ _) rfl) rfl (zd hns0 rfl (bj rfl rfl om so) rfl (zd hns0 rfl (bC (.int .u8 ((l.getD 1 0).toNat:Int)) rfl (hb1)) rfl (zd hns0 rfl (bF rfl rfl underlying3 om om) rfl ?_)))))));refine zd hns0 rfl (aA [(0,(.int .i64 _)),(1,(.int .i64 _))] rfl kr) rfl ?_;refine cX rfl rfl (an (fun b3=>⟨SB,?_⟩));refine aaE ?_;refine zq (bj rfl rfl om so) rfl (zq (bC (.int .u8 ((l.getD 2 0).toNat:Int)) rfl (hb2)) rfl (zq (bF rfl rfl underlying3 om om) rfl ?_));refine gG ?_;refine aax ?_;refine zq (bj rfl rfl om so) rfl (zq (bC (.int .u8 ((l.getD 3 0).toNat:Int)) rfl (hb3)) rfl (zq (bF rfl rfl underlying3 om om) rfl ?_));refine gG ?_;refine aax ?_;refine ze rfl (zc (jO (k:=4) om hl) rfl (fun x32=>?_));have hpb1:=(bT (l.drop 4)).2.1;rw[Xe]at hpb1;refine ze rfl (an (fun b4=>?_));refine aag ?_;refine yC ?_ ?_<;>intro h35 p35
 ·refine gG ?_;refine aaD ?_;refine aag ?_;obtain⟨d,e⟩:∃d,fC l=((aq (l.drop 4)).1,d):=⟨_,by unfold fC;rw[if_neg om,if_pos p35]⟩;rw[e];exact zX aJ.zero [_] results227 ⟨⟨_,rfl,ak rfl⟩,trivial⟩ rfl (fun w hw=>(SB w hw:St w0 H w).aC ⟨fun h=>absurd h (p35),fun _=>rfl⟩)
 refine gA ?_;rw[show(4:Int)+(((aq (l.drop 4)).2.2:Nat):Int)=(((4+(aq (l.drop 4)).2.2):Nat):Int)from by omega];refine ze rfl (zc (jO (k:=(4+(aq (l.drop 4)).2.2)) om hl) rfl (fun x43=>?_));have hpb2:=(bT (l.drop (4+(aq (l.drop 4)).2.2))).2.1;rw[Xe]at hpb2;refine ze rfl (an (fun b5=>?_));refine aag ?_;refine yC ?_ ?_<;>intro h46 p46
 ·refine gG ?_;refine aaD ?_;refine aag ?_;obtain⟨d,e⟩:∃d,fC l=((aq (l.drop (4+(aq (l.drop 4)).2.2))).1,d):=⟨_,by unfold fC;rw[if_neg om,if_neg (by simpa using p35),if_pos p46]⟩;rw[e];exact zX aJ.zero [_] results227 ⟨⟨_,rfl,ak rfl⟩,trivial⟩ rfl (fun w hw=>(SB w hw:St w0 H w).aC ⟨fun h=>absurd h (p46),fun _=>rfl⟩)
 refine zk (zx (zS (zS (zR (zq (zf 2 rfl rfl) rfl (zq (zl rfl) rfl ?_))))))
 first|refine yP rfl rfl ?_|refine zq (bU rfl rfl) rfl ?_
 rw[show(4:Int)+(((aq (l.drop 4)).2.2:Nat):Int)=(((4+(aq (l.drop 4)).2.2):Nat):Int)from by omega];refine gA ?_;refine yC ?_ ?_<;>intro h58 p58<;>refine gG ?_
 ·refine aaD ?_;refine aag ?_;obtain⟨d,e⟩:∃d,fC l=(2,d):=⟨_,by unfold fC;rw[if_neg om,if_neg (by simpa using p35),if_neg (by simpa using p46),if_pos om]⟩;rw[e];exact zX aJ.zero [_] results227 ⟨⟨_,rfl,ak rfl⟩,trivial⟩ rfl (fun w hw=>(SB w hw:St w0 H w).aC ⟨fun h=>absurd h (show ¬((2:Int)=0) by decide),fun _=>rfl⟩)
 refine ze rfl (zc (qb (x:=(aq (l.drop 4)).2.1) (bT _).2.2) rfl (fun x62=>gG ?_));refine aax ?_;refine ze rfl (zc (qb (x:=(aq (l.drop (4+(aq (l.drop 4)).2.2))).2.1) (bT _).2.2) rfl (fun x67=>gG ?_));refine aax ?_;refine aia ?_;refine aag ?_;have e:fC l=(0,(aJ.mk ((l.getD 0 0).toNat:Int) ((l.getD 1 0).toNat:Int) ⟨((l.getD 2 0).toNat:Int),((l.getD 3 0).toNat:Int),dj (aq (l.drop 4)).2.1,dj (aq (l.drop (4+(aq (l.drop 4)).2.2))).2.1⟩ ⟨none,0,[]⟩).abs):=by
  unfold fC;rw[if_neg om,if_neg (by simpa using p35),if_neg (by simpa using p46),if_neg om];rfl
 rw[e];exact zX (aJ.mk ((l.getD 0 0).toNat:Int) ((l.getD 1 0).toNat:Int) ⟨((l.getD 2 0).toNat:Int),((l.getD 3 0).toNat:Int),dj (aq (l.drop 4)).2.1,dj (aq (l.drop (4+(aq (l.drop 4)).2.2))).2.1⟩ ⟨none,0,[]⟩) [_] results227 ⟨⟨_,rfl,ak rfl⟩,trivial⟩ rfl (fun w hw=>(SB w hw:St w0 H w).aC ⟨fun _=>⟨rfl,rfl⟩,fun h=>absurd rfl h⟩)
theorem My{a:Option Addr}{l:List UInt8}{c:Nat}[hr:dT w0 H (.slice a l.length c) l](hl:l.length<=4294967296):CT prog w0 (H) 149 [.slice a l.length c] (α:=aJ) (fun y=> .agg (dV.mk y (gP l).1).cells) (fun y=>pu (y.abs=(gP l).2)::row (.slice y.sig.a (y.sig.l).length y.sig.c) 5 1 (aE (y.sig.l))::H):=by
 refine al func149 rfl ntmps149 rfl (gG ?_);refine ze rfl (an (fun b2=>gG ?_));refine ze rfl (zc (mB (k:=0) (m:=100) om hl dc dc) rfl (fun x7=>?_));rw[XI];obtain⟨hb1,hb2⟩:=eM l 100;refine ze rfl (an (fun b3=>?_));refine aag ?_;refine yC ?_ ?_<;>intro h10 p10<;>refine gG ?_
 ·refine aaD ?_;refine aag ?_;have e:gP l=((au l 100).1,.zero):=by
   unfold gP;rw[if_pos p10]
  rw[e];exact abn
 refine ze rfl (zc (Jh (a:=x7.a) (l:=(au l 100).2.1) (c:=x7.c) om) rfl (fun x16=>?_));refine aV (fun h16=>?_);obtain⟨h16,h16z⟩:=h16;refine ze rfl (an (fun b4=>?_));refine aag ?_;refine yC ?_ ?_<;>intro h19 p19
 ·have hz:=h16z p19;subst hz;refine gG ?_;refine aag ?_;have e:gP l=((fC (au l 100).2.1).1,.zero):=by
   unfold gP;rw[if_neg agw,if_pos p19]
  rw[e];exact abn
 obtain⟨h16,h16s⟩:=h16 agx;refine gG ?_;refine ze rfl (zc (mB (k:=(au l 100).2.2) (m:=1000) om hl dc dc) rfl (fun x24=>?_));obtain⟨hb3,hb4⟩:=eM (l.drop (au l 100).2.2) 1000;rw[Xe]at hb3 hb4;refine ze rfl (an (fun b5=>?_));refine aag ?_;refine yC ?_ ?_<;>intro h27 p27
 ·refine gG ?_;refine aaD ?_;refine aag ?_;have e:gP l=((au (l.drop (au l 100).2.2) 1000).1,.zero):=by
   unfold gP;rw[if_neg agw,if_neg agx,if_pos p27]
  rw[e];exact abn
 refine gA ?_;refine yC ?_ ?_<;>intro h38 p38<;>refine gG ?_
 ·refine aaD ?_;refine aag ?_;have e:gP l=(2,.zero):=by
   unfold gP;rw[if_neg agw,if_neg agx,if_neg (by simpa using p27),if_pos om]
  rw[e];exact abn
 refine aaM ?_;refine ze rfl (zc (xG (r:=(aJ.mk x16.aG x16.seq x16.op ⟨x24.a,x24.c,(au (l.drop (au l 100).2.2) 1000).2.1⟩))) rfl (fun x46=>gG ?_));refine yC ?_ ?_<;>intro h47 p47<;>refine gG ?_
 ·refine aaD ?_;refine aag ?_;have e:gP l=(15,.zero):=by
   unfold gP;rw[if_neg agw,if_neg agx,if_neg (by simpa using p27),if_neg om,if_pos (by rw[←h16];have h:(!(bh (aJ.mk x16.aG x16.seq x16.op ⟨x24.a,x24.c,(au (l.drop (au l 100).2.2) 1000).2.1⟩).abs))=true:=h47;exact(YO _).mp h)]
  rw[e];exact abn
 refine aag ?_;have e:gP l=(0,{(fC (au l 100).2.1).2 with sig:=(au (l.drop (au l 100).2.2) 1000).2.1}):=by
  unfold gP;rw[if_neg agw,if_neg agx,if_neg (by simpa using p27),if_neg om,if_neg (by rw[←h16];intro hh;have h:(!(bh (aJ.mk x16.aG x16.seq x16.op ⟨x24.a,x24.c,(au (l.drop (au l 100).2.2) 1000).2.1⟩).abs))=false:=h47;rw[show bh (aJ.mk x16.aG x16.seq x16.op ⟨x24.a,x24.c,(au (l.drop (au l 100).2.2) 1000).2.1⟩).abs=false from hh]at h;cases h)]
 rw[e];exact zX (aJ.mk x16.aG x16.seq x16.op ⟨x24.a,x24.c,(au (l.drop (au l 100).2.2) 1000).2.1⟩) [_] results149 ⟨⟨_,rfl,ak rfl⟩,trivial⟩ (by rw[show(fC (au l 100).2.1).1=0 by simpa using p19];rfl) (aP (by rw[←h16];rfl) SB)
end
section
def bO(num:Int)(mk:Nat):List UInt8:=if dC num mk=true then fixed (IntKind.u64.wrap num).toNat 2++fixed mk 2 else[]
variable {cs:Vector ax 16} {k:Nat} {w0:World} {H:List SA}
theorem cM(num:Int)(mk:Nat):(bO num mk).length<=4:=by
 unfold bO;split
 · rw[WX,aO,aO];exact W8 _
 · simp
def Ku(cs:Vector ax 16)(i:Nat):List UInt8:=if (cs.toList.getD i ax.zero).there=true then fixed i 1++packed (eW (cs.toList.getD i ax.zero).n)else[]
def eY(cs:Vector ax 16)(k:Nat):List UInt8:=(List.range k).flatMap (Ku cs)
def dR(cs:Vector ax 16)(k:Nat):Nat:=((List.range k).filter fun i=>(cs.toList.getD i ax.zero).there).length
def lu(cs:Vector ax 16):List UInt8:=packed (dR cs 16)++eY cs 16
theorem uu(hk:k<16):cs.toList.getD k ax.zero=cs[k]:=by
 rw[Xy,WW abf];simp
theorem nh(hk:k<16)(h:cs[k].there=true):eY cs k++fixed k 1++packed (eW cs[k].n)=eY cs (k+1):=by
 unfold eY;rw[Yu,Yb,List.flatMap_singleton,Ku,uu hk,if_pos h,W4]
theorem jq(hk:k<16)(h:cs[k].there=false):eY cs (k+1)=eY cs k:=by
 unfold eY;rw[Yu,Yb,List.flatMap_singleton,Ku,uu hk,if_neg (by simp[h]),Xn]
theorem mW(hk:k<16)(h:cs[k].there=true):dR cs k+1=dR cs (k+1):=by
 unfold dR;rw[Yu,YS,WX,YP,if_pos (show(cs.toList.getD k ax.zero).there=true by rw[uu hk];exact h)];rfl
theorem nu(hk:k<16)(h:cs[k].there=false):dR cs (k+1)=dR cs k:=by
 unfold dR;rw[Yu,YS,WX,YP,if_neg (show ¬(cs.toList.getD k ax.zero).there=true by rw[uu hk,h];simp)];rfl
theorem iR(cs:Vector ax 16)(k:Nat):dR cs k<=k:=by
 unfold dR;exact Yk (List.length_filter_le _ _) sm
theorem kY(hcs:∀(i:Nat)(hi:i<16),-9223372036854775808<=cs[i].n/\cs[i].n<=9223372036854775807):∀k,k<=16->(eY cs k).length<=11*k
 |0,_=>by simp[eY]
 |k+1,hk=>by
   have ih:=kY hcs k om;cases h:cs[k].there with
   |true=>
     have:=bw _ (jj (hcs k om));rw[←nh om h,WX,WX,aO];omega
   |false=>rw[jq om h];omega
theorem vU{α:Type}{n:Nat}(f:α->List Value)(m:Nat)(hf:∀x,(f x).length=m)(v:Vector α n)(i:Nat)(hi:i<n):dh (bJ f v).toArray (i*m) m (f v[i]).toArray:=⟨by
 have:=pC f m hf v i hi;rw[List.extract_toArray,List.extract_eq_take_drop];simpa using congrArg List.toArray this⟩
theorem Mf(hk:k<16):fixed k 1=[UInt8.ofNat k]:=by rw[yf,XN om]
theorem zj{num:Int}{mk:Nat}(hmk:mk<65536):CT prog w0 (H) 160 [.agg (aH.mk num (mk:Int)).cells] (α:=AC) (fun y=> .slice y.a (bO num mk).length y.c) (fun y=>row (.slice y.a (bO num mk).length y.c) 5 1 (aE (bO num mk))::H):=by
 refine al func160 rfl ntmps160 rfl (gG ?_);refine ze rfl (aZ rfl (fun b1=>gG ?_));refine ze rfl (zc (pZ hmk) rfl (fun x4=>gG ?_));refine yC ?_ ?_<;>intro h5 p5<;>refine gG ?_
 ·have e:bO num mk=[]:=if_neg afc;simp only[e];exact zX ⟨none,0⟩ [.slice none 0 0] results160 ⟨rfl,trivial⟩ rfl (fun w hw=>(SB w hw:St w0 H w).cP 5)
 refine dw (aF b1 (.cells (aH.mk num (mk:Int)).cells 33 (0,0))::H) [(0,true),(1,true),(2,true),(4,true),(5,true),(6,true),(3,false),(7,false),(8,true)] (fun hns0=>?_);refine acw ?_;refine cX rfl rfl (zc (eK (a:=none) (l:=[]) (c:=0) (x:=IntKind.u64.wrap num) (n:=2) (hr:=dT.B4) sm (fb _)) rfl (fun x9=>⟨SB,?_⟩));rw[mz,Xh];refine cX rfl rfl (zc (eK (x:=(mk:Int)) (n:=2) aez om) rfl (fun x13=>⟨SB,?_⟩));rw[mz,XA];refine gA ?_;have e:bO num mk=fixed (IntKind.u64.wrap num).toNat 2++fixed mk 2:=if_pos afc;simp only[e];exact zX ⟨x13.a,x13.c⟩ [_] results160 ⟨rfl,trivial⟩ rfl SB
theorem wL{num:Int}{mk:Nat}(hmk:mk<65536):CT prog w0 (H) 170 [.agg (aH.mk num (mk:Int)).cells] (α:=AC) (fun y=> .slice y.a (bO num mk).length y.c) (fun y=>row (.slice y.a (bO num mk).length y.c) 5 1 (aE (bO num mk))::H):=by
 refine al func170 rfl ntmps170 rfl (gG ?_);refine ze rfl (aZ rfl (fun b1=>gG ?_));refine ze rfl (zc (sr hmk) rfl (fun x4=>gG ?_));refine yC ?_ ?_<;>intro h5 p5<;>refine gG ?_
 ·have e:bO num mk=[]:=if_neg afc;simp only[e];exact zX ⟨none,0⟩ [.slice none 0 0] results170 ⟨rfl,trivial⟩ rfl (fun w hw=>(SB w hw:St w0 H w).cP 5)
 refine dw (aF b1 (.cells (aH.mk num (mk:Int)).cells 33 (0,0))::H) [(0,true),(1,true),(2,true),(4,true),(5,true),(6,true),(3,false),(7,false),(8,false),(9,true)] (fun hns0=>?_);refine acw ?_;refine cX rfl rfl (zc (jR (x:=IntKind.u64.wrap num) (n:=2) (fb _) (DI _)) rfl (fun x9=>⟨SB,?_⟩));rw[show j4 (IntKind.u64.wrap num) 2=fixed (IntKind.u64.wrap num).toNat 2 from rfl];refine cX rfl rfl (zc (jR (x:=(mk:Int)) (n:=2) om om) rfl (fun x13=>⟨SB,?_⟩));rw[show j4 (mk:Int) 2=fixed mk 2 from rfl];refine cX rfl rfl (zc (AV (l:=fixed (IntKind.u64.wrap num).toNat 2) (l2:=fixed mk 2) (by rw[aO,aO];omega)) rfl (fun x14=>⟨SB,(gA ?_)⟩));have e:bO num mk=fixed (IntKind.u64.wrap num).toNat 2++fixed mk 2:=if_pos afc;simp only[e];exact zX ⟨x14.a,x14.c⟩ [_] results170 ⟨rfl,trivial⟩ rfl SB
theorem KZ(hcs:∀(i:Nat)(hi:i<16),-9223372036854775808<=cs[i].n/\cs[i].n<=9223372036854775807):CT prog w0 (H) 161 [.agg (bJ ax.list cs).toArray] (α:=AC) (fun y=> .slice y.a (lu cs).length y.c) (fun y=>row (.slice y.a (lu cs).length y.c) 5 1 (aE (lu cs))::H):=by
 refine al func161 rfl ntmps161 rfl (gG ?_);refine ze rfl (aZ rfl (fun b1=>gG ?_));refine bH [3,4,5,6,8,9,10,11,12,13,14,15,16,17,18,19,20,21,22,23] [8,3,4] (fun us H'=>∃(k:Nat)(a:Option Addr)(c:Nat),us=[.int .i64 (k:Int),.slice a (eY cs k).length c,.int .u64 (dR cs k:Int)]/\row (.slice a (eY cs k).length c) 5 1 (aE (eY cs k))::aF b1 (.cells (bJ ax.list cs).toArray 37 (0,0))::H=H'/\k<=16) (fun us=>match us with| .int _ i::_=>16-i.toNat|_=>0) ⟨0,none,0,rfl,rfl,om⟩ (fun w hw=>(SB w hw:St w0 (aF b1 (.cells (bJ ax.list cs).toArray 37 (0,0))::H) w).cP 5) ?_;rintro τ0 _ _ ⟨k,a,c,rfl,rfl,hk0⟩ _;refine gG ?_;refine yC ?_ ?_<;>intro h9 p9
 ·have hk:k<16:=om;have hsk:dh (bJ ax.list cs).toArray (k*2) 2 cs[k].cells:=vU _ 2 ax.ae cs k hk;have hck:=hcs k hk;have hlk:=kY hcs k om;refine gG ?_;refine zq (xV rfl rfl underlying37 hk) rfl ?_;refine ze rfl (an (fun b6=>gG ?_));refine aag ?_;refine yC ?_ ?_<;>intro h13 p13
  ·have hth:cs[k].there=true:=h13;refine gG ?_;refine dw (aF b6 (.cells cs[k].cells 36 (0,0))::H) [(0,true),(1,true),(2,true),(4,true),(5,true),(3,false),(6,false),(7,true)] (fun hns0=>?_);refine zd hns0 rfl (zm (.slice _ _ _) rfl) rfl (zd hns0 rfl (zm (.int .i64 _) rfl) rfl (zd hns0 rfl (cV rfl rfl underlying58 om om) rfl ?_));refine gA ?_;refine cX rfl rfl (zc (eK (x:=(k:Int)) (n:=1) om om) rfl (fun x17=>⟨SB,?_⟩));rw[hQ,XA];refine cX rfl rfl (zc (oZ (l:=eY cs k++fixed k 1) (by rw[WX,aO];omega) hck) rfl (fun x20=>⟨SB,?_⟩));rw[nh hk hth];refine zd hns0 rfl (za (.slice _ _ _) rfl) rfl (gz (zx (zR (zq (zm (.int .u64 _) rfl) rfl (zq (bI (bU rfl rfl) (congrArg (Value.int .u64) (show IntKind.u64.wrap ((dR cs k:Int)+1)=((dR cs k+1:Nat):Int)from by rw[←Int.natCast_succ];exact kM .u64 rfl (by have:=iR cs k;show _<2^64;omega)))) rfl ?_)))));refine gA ?_;exact ado
  have hth:cs[k].there=false:=h13;refine gA ?_;exact ado
 obtain rfl:k=16:=om;refine gG ?_;refine Za ?_;refine ze rfl (zc (kj (a:=none) (l:=[]) (c:=0) (x:=(dR cs 16:Int)) (hr:=dT.B4) sm om adz) rfl (fun x25=>?_));rw[Xh,XA];refine gG ?_;refine ze rfl (bR (sv:= .slice _ _ _) (xv:= .slice _ _ _) rfl rfl afF rfl (fun a27 c27=>?_));rw[show packed (dR cs 16)++eY cs 16=lu cs from rfl];refine gG ?_;exact zX ⟨a27,c27⟩ [_] results161 ⟨rfl,trivial⟩ rfl SB
end
section
instance three:lT prog 264 (.agg #[.slice none 0 0,.slice none 0 0,.slice none 0 0]):=⟨kr⟩
variable {cs:Vector ax 16} {w0:World} {H:List SA} {rs:Vector ar 6} {s f n1 n2:Int} {m1 m2:Nat} {r:ar}
theorem qg{α:Type}{n:Nat}(f:α->List Value)(m:Nat)(hf:∀x,(f x).length=m)(v:Vector α n)(i j:Nat)(hi:i<n)(hj:j<m){u:Value}(hu:(f v[i])[j]? =some u):aw (bJ f v).toArray (i*m+j) u:=⟨by
 have:=iL f m hf v.toList i j acq hj;simpa[bJ,hu]using this⟩
theorem pP(x:Int):∃b:UInt8,fixed (IntKind.u64.wrap x).toNat 1=[b]/\IntKind.u8.wrap x=(b.toNat:Int):=by
 refine⟨mm (IntKind.u8.wrap x),IV x,?_⟩;have:0<=IntKind.u8.wrap x/\IntKind.u8.wrap x<256:=abS;simp only[mm];rw[Ye];omega
def MW(b:Bool):Int:=if b=true then 1 else 0
def eE(r:ar):List UInt8:=fixed (IntKind.u64.wrap r.aG).toNat 1++fixed (IntKind.u64.wrap r.seq).toNat 1++fixed (IntKind.u64.wrap r.slot).toNat 1++fixed (IntKind.u64.wrap (MW r.res.oK)).toNat 1++packed (eW r.res.n)
def eC(rs:Vector ar 6)(k:Nat):List UInt8:=(rs.toList.take k).flatMap fun r=>aY (eE r)
theorem mI(rs:Vector ar 6){k:Nat}(hk:k<6):eC rs k++aY (eE rs[k])=eC rs (k+1):=by
 unfold eC;rw[Xf abf,Yb,List.flatMap_singleton];simp
theorem nR(h: -9223372036854775808<=r.res.n/\r.res.n<=9223372036854775807):(eE r).length<=14:=by
 have:=bw _ (jj h);simp only[eE,WX,aO];omega
theorem kP(h:∀(i:Nat)(hi:i<6),-9223372036854775808<=rs[i].res.n/\rs[i].res.n<=9223372036854775807):∀k,k<=6->(eC rs k).length<=24*k
 |0,_=>by simp[eC]
 |k+1,hk=>by
   have ih:=kP h k om;have h1:=nR (h k om);have h2:=bA (eE rs[k]) om;rw[←mI rs om,WX];omega
def dS(s f n1:Int)(m1:Nat)(n2:Int)(m2:Nat)(cs:Vector ax 16)(rs:Vector ar 6):List UInt8:=
 fixed (IntKind.u64.wrap s).toNat 2++fixed (IntKind.u64.wrap f).toNat 2++aY (bO n1 m1)++aY (bO n2 m2)++aY (lu cs)++eC rs 6
theorem iH(hcs:∀(i:Nat)(hi:i<16),-9223372036854775808<=cs[i].n/\cs[i].n<=9223372036854775807):(lu cs).length<=200:=by
 have h1:=kY hcs 16 (W8 _);have h2:=bw (dR cs 16) adz;unfold lu;rw[WX];omega
theorem s9(hcs:∀(i:Nat)(hi:i<16),-9223372036854775808<=cs[i].n/\cs[i].n<=9223372036854775807):(fixed (IntKind.u64.wrap s).toNat 2++fixed (IntKind.u64.wrap f).toNat 2++aY (bO n1 m1)++aY (bO n2 m2)++aY (lu cs)).length<=300:=by
 have h1:=cM n1 m1;have h2:=cM n2 m2;have h3:=iH hcs;have h4:=bA (bO n1 m1) om;have h5:=bA (bO n2 m2) om;have h6:=bA (lu cs) om;simp only[WX,aO];omega
theorem vd(hcs:∀(i:Nat)(hi:i<16),-9223372036854775808<=cs[i].n/\cs[i].n<=9223372036854775807)
   (hrs:∀(i:Nat)(hi:i<6),-9223372036854775808<=rs[i].res.n/\rs[i].res.n<=9223372036854775807):(dS s f n1 m1 n2 m2 cs rs).length<=1000:=by
 have h1:=s9 (s:=s) (f:=f) (n1:=n1) (n2:=n2) (m1:=m1) (m2:=m2) hcs;have h2:=kP hrs 6 (W8 _);unfold dS;rw[WX];omega
theorem aj.Dd(v:aj)(k:Nat)(hk:k<6):dh v.cells (38+k*5) 5 v.last[k].cells:=⟨by
 have h1:=pC ar.list 5 ar.ae v.last k hk;have h2:(v.p0++(v.p1++(v.view.list++(v.fM.list++v.p4)))).length=38:=by simp only[WX,aH.ae,v.l4,XB]
 have h3:v.list=(v.p0++(v.p1++(v.view.list++(v.fM.list++v.p4))))++v.p5:=by simp only[aj.list,W4]
 rw[aj.cells,List.extract_toArray,List.extract_eq_take_drop,h3,List.drop_append,h2,XV (by rw[h2];omega),Xh,show 38+k*5-38=k*5 by omega,show 38+k*5+5-(38+k*5)=5 by omega,h1];rfl⟩
theorem Jv(hcs:∀(i:Nat)(hi:i<16),-9223372036854775808<=cs[i].n/\cs[i].n<=9223372036854775807):CT prog w0 (H) 171 [.agg (bJ ax.list cs).toArray] (α:=AC) (fun y=> .slice y.a (lu cs).length y.c) (fun y=>row (.slice y.a (lu cs).length y.c) 5 1 (aE (lu cs))::H):=by
 refine al func171 rfl ntmps171 rfl (gG ?_);refine ze rfl (aZ rfl (fun b1=>gG ?_));refine bH [3,4,5,6,7,8,9,10,11,12,13,14,15,16,17,18,19,20,21,22,23,24,25,26,27,28] [5,4,3] (fun us H'=>∃(k:Nat)(a:Option Addr)(c:Nat),us=[.int .i64 (k:Int),.slice a (eY cs k).length c,.int .i64 (dR cs k:Int)]/\row (.slice a (eY cs k).length c) 5 1 (aE (eY cs k))::aF b1 (.cells (bJ ax.list cs).toArray 37 (0,0))::H=H'/\k<=16) (fun us=>match us with| .int _ i::_=>16-i.toNat|_=>0) ⟨0,none,0,rfl,rfl,om⟩ (fun w hw=>(SB w hw:St w0 (aF b1 (.cells (bJ ax.list cs).toArray 37 (0,0))::H) w).cP 5) ?_;rintro τ0 _ _ ⟨k,a,c,rfl,rfl,hk0⟩ _;refine gG ?_;refine yC ?_ ?_<;>intro h7 p7
 ·have hk:k<16:=om;have hck:=hcs k hk;have hlk:=kY hcs k om;have hc0:aw (bJ ax.list cs).toArray (k*2) (.bool cs[k].there):=qg _ 2 ax.ae cs k 0 hk dc rfl;have hc1:aw (bJ ax.list cs).toArray (k*2+1) (.int .i64 cs[k].n):=qg _ 2 ax.ae cs k 1 hk dc rfl;refine gG ?_;refine zq (aQ (sz:=2) (k*2) k rfl rfl underlying37 rfl rfl ago om) rfl (zq (zf (k*2) rfl rfl) rfl ?_);refine gG ?_;refine yC ?_ ?_<;>intro h13 p13
  ·have hth:cs[k].there=true:=h13;refine gG ?_;refine zq (gh rfl rfl om (by have:=iR cs k;omega)) rfl ?_;refine gG ?_;refine aby ?_;refine ze rfl (dH (v:= .int .u8 (IntKind.u8.wrap _)) rfl (fun a19 c19=>?_));refine ze rfl (gj (n:=IntKind.u8.wrap _) (sv:= .slice _ _ _) (xv:= .slice _ _ _) rfl rfl (ie _) om rfl (fun a20 c20=>?_));rw[kW,←Mf hk];refine gG ?_;refine zq (aQ (sz:=2) (k*2) k rfl rfl underlying37 rfl rfl ago om) rfl (zq (zf (k*2+1) rfl rfl) rfl ?_);refine gG ?_;refine ze rfl (zc (AR hck) rfl (fun x26=>?_));refine ze rfl (zc (lS (x:=(eW cs[k].n:Int)) om (by have:=jj hck;omega)) rfl (fun x27=>?_));rw[XA];refine ze rfl (bR (sv:= .slice _ _ _) (xv:= .slice _ _ _) rfl rfl (by have:=bw _ (jj hck);rw[WX,aO];omega) rfl (fun a28 c28=>?_));rw[nh hk hth];refine gA ?_;exact adu
  have hth:cs[k].there=false:=h13;refine gA ?_;exact adu
 obtain rfl:k=16:=om;refine gG ?_;refine Za ?_;refine zq (cV rfl rfl underlying58 om adz) rfl ?_;refine ze rfl (zc (lS (x:=(dR cs 16:Int)) om adz) rfl (fun x31=>?_));rw[XA];refine gG ?_;refine ze rfl (zc (AV (l:=packed (dR cs 16)) (l2:=eY cs 16) afF) rfl (fun x33=>?_));rw[show packed (dR cs 16)++eY cs 16=lu cs from rfl];refine gG ?_;exact zX ⟨x33.a,x33.c⟩ [_] results171 ⟨rfl,trivial⟩ rfl SB
theorem DD(hn: -9223372036854775808<=r.res.n/\r.res.n<=9223372036854775807):CT prog w0 (H) 162 [.agg r.cells] (α:=AC) (fun y=> .slice y.a (eE r).length y.c) (fun y=>row (.slice y.a (eE r).length y.c) 5 1 (aE (eE r))::H):=by
 refine al func162 rfl ntmps162 rfl (gG ?_);refine ze rfl (aZ rfl (fun b1=>gG ?_));refine yC ?_ ?_<;>intro h9 p9
 ·have hok:r.res.oK=true:=h9;refine gG ?_;refine ZW ?_;refine gD (cc ?_);refine gG ?_;refine Ze ?_;refine Zr ?_;refine aa4 ?_;refine ze rfl (zc (eK (a:=none) (l:=[]) (c:=0) (x:=IntKind.u64.wrap r.aG) (n:=1) (hr:=dT.B4) aeA (fb _)) rfl (fun x24=>?_));rw[hQ,Xh];refine gA ?_;refine Zf ?_;refine Ze ?_;refine Zr ?_;refine aa4 ?_;refine ze rfl (zc (eK (l:=fixed (IntKind.u64.wrap r.aG).toNat 1) (x:=IntKind.u64.wrap r.seq) (n:=1) aeA (fb _)) rfl (fun x24=>?_));rw[hQ];refine gA ?_;refine Zf ?_;refine Ze ?_;refine Zr ?_;refine aa4 ?_;refine ze rfl (zc (eK (l:=fixed (IntKind.u64.wrap r.aG).toNat 1++fixed (IntKind.u64.wrap r.seq).toNat 1) (x:=IntKind.u64.wrap r.slot) (n:=1) aeA (fb _)) rfl (fun x24=>?_));rw[hQ];refine gA ?_;refine Zf ?_;refine Ze ?_;refine Zr ?_;refine aa4 ?_;refine ze rfl (zc (eK (l:=fixed (IntKind.u64.wrap r.aG).toNat 1++fixed (IntKind.u64.wrap r.seq).toNat 1++fixed (IntKind.u64.wrap r.slot).toNat 1) (x:=IntKind.u64.wrap 1) (n:=1) aeA (fb _)) rfl (fun x24=>?_));rw[hQ];refine gA ?_;refine Zf ?_;refine Zb ?_;refine Zl ?_;refine ze rfl (zc (oZ aeA hn) rfl (fun x30=>gG ?_));have e:eE r=fixed (IntKind.u64.wrap r.aG).toNat 1++fixed (IntKind.u64.wrap r.seq).toNat 1++fixed (IntKind.u64.wrap r.slot).toNat 1++fixed (IntKind.u64.wrap 1).toNat 1++packed (eW r.res.n):=by unfold eE MW;rw[if_pos hok]
  simp only[e];exact afP
 have hok:r.res.oK=false:=h9;refine gG ?_;refine ZW ?_;refine gD (cc ?_);refine gG ?_;refine Ze ?_;refine Zr ?_;refine aa4 ?_;refine ze rfl (zc (eK (a:=none) (l:=[]) (c:=0) (x:=IntKind.u64.wrap r.aG) (n:=1) (hr:=dT.B4) aeA (fb _)) rfl (fun x24=>?_));rw[hQ,Xh];refine gA ?_;refine Zf ?_;refine Ze ?_;refine Zr ?_;refine aa4 ?_;refine ze rfl (zc (eK (l:=fixed (IntKind.u64.wrap r.aG).toNat 1) (x:=IntKind.u64.wrap r.seq) (n:=1) aeA (fb _)) rfl (fun x24=>?_));rw[hQ];refine gA ?_;refine Zf ?_;refine Ze ?_;refine Zr ?_;refine aa4 ?_;refine ze rfl (zc (eK (l:=fixed (IntKind.u64.wrap r.aG).toNat 1++fixed (IntKind.u64.wrap r.seq).toNat 1) (x:=IntKind.u64.wrap r.slot) (n:=1) aeA (fb _)) rfl (fun x24=>?_));rw[hQ];refine gA ?_;refine Zf ?_;refine Ze ?_;refine Zr ?_;refine aa4 ?_;refine ze rfl (zc (eK (l:=fixed (IntKind.u64.wrap r.aG).toNat 1++fixed (IntKind.u64.wrap r.seq).toNat 1++fixed (IntKind.u64.wrap r.slot).toNat 1) (x:=IntKind.u64.wrap 0) (n:=1) aeA (fb _)) rfl (fun x24=>?_));rw[hQ];refine gA ?_;refine Zf ?_;refine Zb ?_;refine Zl ?_;refine ze rfl (zc (oZ aeA hn) rfl (fun x30=>gG ?_));have e:eE r=fixed (IntKind.u64.wrap r.aG).toNat 1++fixed (IntKind.u64.wrap r.seq).toNat 1++fixed (IntKind.u64.wrap r.slot).toNat 1++fixed (IntKind.u64.wrap 0).toNat 1++packed (eW r.res.n):=by unfold eE MW;rw[if_neg (by simp[hok])]
 simp only[e];exact afP
theorem BU(hn: -9223372036854775808<=r.res.n/\r.res.n<=9223372036854775807):CT prog w0 (H) 172 [.agg r.cells] (α:=AC) (fun y=> .slice y.a (eE r).length y.c) (fun y=>row (.slice y.a (eE r).length y.c) 5 1 (aE (eE r))::H):=by
 refine al func172 rfl ntmps172 rfl (gG ?_);refine ze rfl (aZ rfl (fun b1=>gG ?_));refine yC ?_ ?_<;>intro h7 p7
 ·have hok:r.res.oK=true:=h7;refine gG ?_;refine aby ?_;obtain⟨d0,hb0,hw0⟩:=pP r.aG;rw[hw0];refine gG ?_;refine aby ?_;obtain⟨d1,hb1,hw1⟩:=pP r.seq;rw[hw1];refine gG ?_;refine aby ?_;obtain⟨d2,hb2,hw2⟩:=pP r.slot;rw[hw2];refine gG ?_;refine ze rfl (cr (m:=([d0,d1,d2,1]:List UInt8).length) [.int .u8 (d0.toNat:Int),.int .u8 (d1.toNat:Int),.int .u8 (d2.toNat:Int),.int .u8 1] (aE [d0,d1,d2,1]) rfl rfl rfl rfl abY rfl rfl (fun a19 c19=>?_));refine ez (fun w hw=>hw.cP 5) ?_;refine ze rfl (bR (sv:= .slice none ([]:List UInt8).length 0) (xv:= .slice _ _ _) (l:=[]) rfl rfl sm rfl (fun a20 c20=>?_));rw[Xh];refine gG ?_;refine ze rfl (zc (AR hn) rfl (fun x25=>?_));refine ze rfl (zc (lS (x:=(eW r.res.n:Int)) om (by have:=jj hn;omega)) rfl (fun x26=>?_));rw[XA];refine ze rfl (bR (sv:= .slice _ _ _) (xv:= .slice _ _ _) rfl rfl (by have:=bw _ (jj hn);simp;omega) rfl (fun a27 c27=>gG ?_));have e:eE r=[d0,d1,d2,1]++packed (eW r.res.n):=by unfold eE MW;rw[if_pos hok,hb0,hb1,hb2];rfl
  simp only[e];exact aga
 have hok:r.res.oK=false:=h7;refine gG ?_;refine aby ?_;obtain⟨d0,hb0,hw0⟩:=pP r.aG;rw[hw0];refine gG ?_;refine aby ?_;obtain⟨d1,hb1,hw1⟩:=pP r.seq;rw[hw1];refine gG ?_;refine aby ?_;obtain⟨d2,hb2,hw2⟩:=pP r.slot;rw[hw2];refine gG ?_;refine ze rfl (cr (m:=([d0,d1,d2,0]:List UInt8).length) [.int .u8 (d0.toNat:Int),.int .u8 (d1.toNat:Int),.int .u8 (d2.toNat:Int),.int .u8 0] (aE [d0,d1,d2,0]) rfl rfl rfl rfl abY rfl rfl (fun a19 c19=>?_));refine ez (fun w hw=>hw.cP 5) ?_;refine ze rfl (bR (sv:= .slice none ([]:List UInt8).length 0) (xv:= .slice _ _ _) (l:=[]) rfl rfl sm rfl (fun a20 c20=>?_));rw[Xh];refine gG ?_;refine ze rfl (zc (AR hn) rfl (fun x25=>?_));refine ze rfl (zc (lS (x:=(eW r.res.n:Int)) om (by have:=jj hn;omega)) rfl (fun x26=>?_));rw[XA];refine ze rfl (bR (sv:= .slice _ _ _) (xv:= .slice _ _ _) rfl rfl (by have:=bw _ (jj hn);simp;omega) rfl (fun a27 c27=>gG ?_));have e:eE r=[d0,d1,d2,0]++packed (eW r.res.n):=by unfold eE MW;rw[if_neg (by simp[hok]),hb0,hb1,hb2];rfl
 simp only[e];exact aga
theorem wM(hm1:m1<65536)(hm2:m2<65536)(hcs:∀(i:Nat)(hi:i<16),-9223372036854775808<=cs[i].n/\cs[i].n<=9223372036854775807)(hrs:∀(i:Nat)(hi:i<6),-9223372036854775808<=rs[i].res.n/\rs[i].res.n<=9223372036854775807):CT prog w0 (H) 90 [.agg (aj.mk s f ⟨n1,(m1:Int)⟩ ⟨n2,(m2:Int)⟩ cs rs).cells] (α:=AC) (fun y=> .slice y.a (dS s f n1 m1 n2 m2 cs rs).length y.c) (fun y=>row (.slice y.a (dS s f n1 m1 n2 m2 cs rs).length y.c) 5 1 (aE (dS s f n1 m1 n2 m2 cs rs))::H):=by
 refine al func90 rfl ntmps90 rfl (gG ?_);refine ze rfl (aZ rfl (fun b1=>gG ?_));refine dw (aF b1 (.cells (aj.mk s f ⟨n1,(m1:Int)⟩ ⟨n2,(m2:Int)⟩ cs rs).cells 44 (0,0))::H) [(0,true),(1,true),(2,true),(4,true),(5,true),(6,true),(3,false),(7,false),(8,true)] (fun hns0=>?_);refine acC ?_;refine cX rfl rfl (zc (eK (a:=none) (l:=[]) (c:=0) (x:=IntKind.u64.wrap s) (n:=2) (hr:=dT.B4) sm (fb _)) rfl (fun x11=>⟨SB,?_⟩));rw[mz,Xh];refine cX rfl rfl (zc (eK (x:=IntKind.u64.wrap f) (n:=2) aez (fb _)) rfl (fun x15=>⟨SB,?_⟩));rw[mz];refine gA ?_;refine dw (aF b1 (.cells (aj.mk s f ⟨n1,(m1:Int)⟩ ⟨n2,(m2:Int)⟩ cs rs).cells 44 (0,0))::H) [(0,true),(1,true),(3,true),(4,true),(6,true),(7,true),(10,true),(2,false),(5,false),(8,false),(9,true)] (fun hns1=>?_);refine gA ?_;refine cX rfl rfl (zc (zj hm1) rfl (fun x18=>⟨SB,?_⟩));refine cX rfl rfl (zc (zj hm2) rfl (fun x21=>⟨SB,?_⟩));refine cX rfl rfl (zc (KZ hcs) rfl (fun x24=>⟨SB,?_⟩));refine zd hns1 rfl (ck #[(.slice _ _ _),(.slice _ _ _),(.slice _ _ _)] underlying264 rfl rfl rfl) rfl ?_;refine gA ?_;refine gD (cc ?_);refine gG ?_;refine Ze ?_;refine ZN ?_;refine ze rfl (zc (gW (l:=fixed (IntKind.u64.wrap s).toNat 2++fixed (IntKind.u64.wrap f).toNat 2) (l2:=bO n1 m1) ab8 aa5) rfl (fun x31=>?_));rw[W4 (fixed (IntKind.u64.wrap s).toNat 2++fixed (IntKind.u64.wrap f).toNat 2) (packed (bO n1 m1).length) (bO n1 m1),show packed (bO n1 m1).length++bO n1 m1=aY (bO n1 m1)from rfl];refine gA ?_;refine Zf ?_;refine Ze ?_;refine ZN ?_
 refine ze rfl (zc (gW (l:=fixed (IntKind.u64.wrap s).toNat 2++fixed (IntKind.u64.wrap f).toNat 2++aY (bO n1 m1)) (l2:=bO n2 m2) ab8 aa5) rfl (fun x31=>?_));rw[W4 (fixed (IntKind.u64.wrap s).toNat 2++fixed (IntKind.u64.wrap f).toNat 2++aY (bO n1 m1)) (packed (bO n2 m2).length) (bO n2 m2),show packed (bO n2 m2).length++bO n2 m2=aY (bO n2 m2)from rfl];refine gA ?_;refine Zf ?_;refine Ze ?_;refine ZN ?_;refine ze rfl (zc (gW (l:=fixed (IntKind.u64.wrap s).toNat 2++fixed (IntKind.u64.wrap f).toNat 2++aY (bO n1 m1)++aY (bO n2 m2)) (l2:=lu cs) ab8 aa5) rfl (fun x31=>?_));rw[W4 (fixed (IntKind.u64.wrap s).toNat 2++fixed (IntKind.u64.wrap f).toNat 2++aY (bO n1 m1)++aY (bO n2 m2)) (packed (lu cs).length) (lu cs),show packed (lu cs).length++lu cs=aY (lu cs)from rfl];refine gA ?_;refine Zf ?_;refine Zb ?_;refine Zl ?_;refine zq (zf 38 rfl rfl) rfl ?_;refine gG ?_;have hhd:=s9 (s:=s) (f:=f) (n1:=n1) (n2:=n2) (m1:=m1) (m2:=m2) hcs
 refine bH [3,7,35,36,37,38,39,40,41,42] [35,3] (fun us H'=>∃(k:Nat)(a:Option Addr)(c:Nat),us=[.int .i64 (k:Int),.slice a (fixed (IntKind.u64.wrap s).toNat 2++fixed (IntKind.u64.wrap f).toNat 2++aY (bO n1 m1)++aY (bO n2 m2)++aY (lu cs)++eC rs k).length c]/\row (.slice a (fixed (IntKind.u64.wrap s).toNat 2++fixed (IntKind.u64.wrap f).toNat 2++aY (bO n1 m1)++aY (bO n2 m2)++aY (lu cs)++eC rs k).length c) 5 1 (aE (fixed (IntKind.u64.wrap s).toNat 2++fixed (IntKind.u64.wrap f).toNat 2++aY (bO n1 m1)++aY (bO n2 m2)++aY (lu cs)++eC rs k))::aF b1 (.cells (aj.mk s f ⟨n1,(m1:Int)⟩ ⟨n2,(m2:Int)⟩ cs rs).cells 44 (0,0))::H=H'/\k<=6) (fun us=>match us with| .int _ i::_=>6-i.toNat|_=>0) ⟨0,x31.a,x31.c,by rw[show eC rs 0=[]from rfl,Xn];rfl,by rw[show eC rs 0=[]from rfl,Xn],om⟩ SB ?_;rintro τ1 _ _ ⟨k,a,c,rfl,rfl,hk0⟩ _;refine gG ?_;refine yC ?_ ?_<;>intro h36 p36
 ·have hk:k<6:=om;have hrk:=hrs k hk;have hlk:=nR hrk;have hhk:=kP hrs k om;have hsk:dh (bJ ar.list rs).toArray (k*5) 5 rs[k].cells:=vU _ 5 ar.ae rs k hk;refine gG ?_;refine zq (xV rfl rfl underlying42 hk) rfl ?_;refine ze rfl (an (fun b7=>?_));refine aag ?_;refine ze rfl (zc (DD (r:=rs[k]) hrk) rfl (fun x40=>?_));refine ze rfl (zc (gW (l:=fixed (IntKind.u64.wrap s).toNat 2++fixed (IntKind.u64.wrap f).toNat 2++aY (bO n1 m1)++aY (bO n2 m2)++aY (lu cs)++eC rs k) (l2:=eE rs[k]) (by rw[WX];omega) om) rfl (fun x41=>?_));rw[W4 (fixed (IntKind.u64.wrap s).toNat 2++fixed (IntKind.u64.wrap f).toNat 2++aY (bO n1 m1)++aY (bO n2 m2)++aY (lu cs)++eC rs k) (packed (eE rs[k]).length) (eE rs[k]),show packed (eE rs[k]).length++eE rs[k]=aY (eE rs[k])from rfl,W4 (fixed (IntKind.u64.wrap s).toNat 2++fixed (IntKind.u64.wrap f).toNat 2++aY (bO n1 m1)++aY (bO n2 m2)++aY (lu cs)) (eC rs k) (aY (eE rs[k])),mI rs hk];refine gA ?_;exact xl ⟨k+1,x41.a,x41.c,rfl,rfl,om⟩
 obtain rfl:k=6:=om;have e6:fixed (IntKind.u64.wrap s).toNat 2++fixed (IntKind.u64.wrap f).toNat 2++aY (bO n1 m1)++aY (bO n2 m2)++aY (lu cs)++eC rs 6=dS s f n1 m1 n2 m2 cs rs:=rfl;rw[e6];refine gG ?_;refine Za ?_;exact zX ⟨a,c⟩ [_] results90 ⟨rfl,trivial⟩ rfl SB
theorem ue(hm1:m1<65536)(hm2:m2<65536)(hcs:∀(i:Nat)(hi:i<16),-9223372036854775808<=cs[i].n/\cs[i].n<=9223372036854775807)(hrs:∀(i:Nat)(hi:i<6),-9223372036854775808<=rs[i].res.n/\rs[i].res.n<=9223372036854775807):CT prog w0 (H) 92 [.agg (aj.mk s f ⟨n1,(m1:Int)⟩ ⟨n2,(m2:Int)⟩ cs rs).cells] (α:=AC) (fun y=> .slice y.a (dS s f n1 m1 n2 m2 cs rs).length y.c) (fun y=>row (.slice y.a (dS s f n1 m1 n2 m2 cs rs).length y.c) 5 1 (aE (dS s f n1 m1 n2 m2 cs rs))::H):=by
 refine al func92 rfl ntmps92 rfl (gG ?_);refine ze rfl (aZ rfl (fun b1=>gG ?_));refine dw (aF b1 (.cells (aj.mk s f ⟨n1,(m1:Int)⟩ ⟨n2,(m2:Int)⟩ cs rs).cells 44 (0,0))::H) [(0,true),(1,true),(2,true),(4,true),(5,true),(6,true),(3,false),(7,false),(8,false),(9,true)] (fun hns0=>?_);refine acC ?_;refine cX rfl rfl (zc (jR (x:=IntKind.u64.wrap s) (n:=2) (fb _) (DI _)) rfl (fun x8=>⟨SB,?_⟩));rw[show j4 (IntKind.u64.wrap s) 2=fixed (IntKind.u64.wrap s).toNat 2 from rfl];refine cX rfl rfl (zc (jR (x:=IntKind.u64.wrap f) (n:=2) (fb _) (DI _)) rfl (fun x12=>⟨SB,?_⟩));rw[show j4 (IntKind.u64.wrap f) 2=fixed (IntKind.u64.wrap f).toNat 2 from rfl];refine cX rfl rfl (zc (AV (l:=fixed (IntKind.u64.wrap s).toNat 2) (l2:=fixed (IntKind.u64.wrap f).toNat 2) (by rw[aO,aO];omega)) rfl (fun x13=>⟨SB,(gA ?_)⟩));refine ze rfl (zc (wL hm1) rfl (fun x17=>?_));refine ze rfl (zc (pT (l2:=bO n1 m1) aa5) rfl (fun x18=>?_));refine ze rfl (bR (sv:= .slice _ _ _) (xv:= .slice _ _ _) rfl rfl abT rfl (fun a19 c19=>gG ?_));refine ze rfl (zc (wL hm2) rfl (fun x23=>?_));refine ze rfl (zc (pT (l2:=bO n2 m2) aa5) rfl (fun x24=>?_));refine ze rfl (bR (sv:= .slice _ _ _) (xv:= .slice _ _ _) rfl rfl abT rfl (fun a25 c25=>gG ?_));refine ze rfl (zc (Jv hcs) rfl (fun x29=>?_));refine ze rfl (zc (pT (l2:=lu cs) aa5) rfl (fun x30=>?_));refine ze rfl (bR (sv:= .slice _ _ _) (xv:= .slice _ _ _) rfl rfl abT rfl (fun a31 c31=>gG ?_));have hhd:=s9 (s:=s) (f:=f) (n1:=n1) (n2:=n2) (m1:=m1) (m2:=m2) hcs
 refine bH [3,4,32,33,34,35,36,37,38,39,40,41,42,43] [4,3] (fun us H'=>∃(k:Nat)(a:Option Addr)(c:Nat),us=[.int .i64 (k:Int),.slice a (fixed (IntKind.u64.wrap s).toNat 2++fixed (IntKind.u64.wrap f).toNat 2++aY (bO n1 m1)++aY (bO n2 m2)++aY (lu cs)++eC rs k).length c]/\row (.slice a (fixed (IntKind.u64.wrap s).toNat 2++fixed (IntKind.u64.wrap f).toNat 2++aY (bO n1 m1)++aY (bO n2 m2)++aY (lu cs)++eC rs k).length c) 5 1 (aE (fixed (IntKind.u64.wrap s).toNat 2++fixed (IntKind.u64.wrap f).toNat 2++aY (bO n1 m1)++aY (bO n2 m2)++aY (lu cs)++eC rs k))::aF b1 (.cells (aj.mk s f ⟨n1,(m1:Int)⟩ ⟨n2,(m2:Int)⟩ cs rs).cells 44 (0,0))::H=H'/\k<=6) (fun us=>match us with| .int _ i::_=>6-i.toNat|_=>0) ⟨0,a31,c31,by rw[show eC rs 0=[]from rfl,Xn];rfl,by rw[show eC rs 0=[]from rfl,Xn],om⟩ SB ?_;rintro τ0 _ _ ⟨k,a,c,rfl,rfl,hk0⟩ _;refine gG ?_;refine yC ?_ ?_<;>intro h33 p33
 ·have hk:k<6:=om;have hrk:=hrs k hk;have hlk:=nR hrk;have hhk:=kP hrs k om;have hsk:dh (aj.mk s f ⟨n1,(m1:Int)⟩ ⟨n2,(m2:Int)⟩ cs rs).cells (38+k*5) 5 rs[k].cells:=aj.Dd (aj.mk s f ⟨n1,(m1:Int)⟩ ⟨n2,(m2:Int)⟩ cs rs) k hk;refine gG ?_;refine zq (zf 38 rfl rfl) rfl (zq (aQ (sz:=5) (38+k*5) k rfl rfl underlying42 rfl rfl ago rfl) rfl (zq (zn rfl (by rw[Nat.ble_eq];omega)) rfl ?_));refine ze rfl (zc (BU (r:=rs[k]) hrk) rfl (fun x41=>?_));refine ze rfl (zc (pT (l2:=eE rs[k]) om) rfl (fun x42=>?_));refine ze rfl (bR (sv:= .slice _ _ _) (xv:= .slice _ _ _) rfl rfl (by have hv7:=bA (eE rs[k]) om;rw[WX];omega) rfl (fun a43 c43=>?_));rw[W4 (fixed (IntKind.u64.wrap s).toNat 2++fixed (IntKind.u64.wrap f).toNat 2++aY (bO n1 m1)++aY (bO n2 m2)++aY (lu cs)) (eC rs k) (aY (eE rs[k])),mI rs hk];refine gA ?_;exact xl ⟨k+1,a43,c43,rfl,rfl,om⟩
 obtain rfl:k=6:=om;have e6:fixed (IntKind.u64.wrap s).toNat 2++fixed (IntKind.u64.wrap f).toNat 2++aY (bO n1 m1)++aY (bO n2 m2)++aY (lu cs)++eC rs 6=dS s f n1 m1 n2 m2 cs rs:=rfl;rw[e6];refine gG ?_;refine Za ?_;exact zX ⟨a,c⟩ [_] results92 ⟨rfl,trivial⟩ rfl SB
attribute [local irreducible] fH dS
theorem B6(hm1:m1<65536)(hm2:m2<65536)(hcs:∀(i:Nat)(hi:i<16),-9223372036854775808<=cs[i].n/\cs[i].n<=9223372036854775807)(hrs:∀(i:Nat)(hi:i<6),-9223372036854775808<=rs[i].res.n/\rs[i].res.n<=9223372036854775807):CT prog w0 (H) 55 [.agg (aj.mk s f ⟨n1,(m1:Int)⟩ ⟨n2,(m2:Int)⟩ cs rs).cells] (α:=Unit) (fun _=> .agg (aX (fH (dS s f n1 m1 n2 m2 cs rs))).toArray) (fun _=>H):=by
 refine al func55 rfl ntmps55 rfl (gG ?_);refine ze rfl (aZ rfl (fun b1=>?_));refine ze rfl (an (fun b2=>gG ?_));refine ze rfl (zc (wM hm1 hm2 hcs hrs) rfl (fun x4=>?_));refine ze rfl (zc (CP (l:=dS s f n1 m1 n2 m2 cs rs) afz) rfl (fun x5=>?_));refine aag ?_;exact zX () [_] results55 ⟨⟨_,rfl,ak rfl⟩,trivial⟩ rfl SB
theorem Gd(hm1:m1<65536)(hm2:m2<65536)(hcs:∀(i:Nat)(hi:i<16),-9223372036854775808<=cs[i].n/\cs[i].n<=9223372036854775807)(hrs:∀(i:Nat)(hi:i<6),-9223372036854775808<=rs[i].res.n/\rs[i].res.n<=9223372036854775807):CT prog w0 (H) 43 [.agg (aj.mk s f ⟨n1,(m1:Int)⟩ ⟨n2,(m2:Int)⟩ cs rs).cells] (α:=Unit) (fun _=> .agg (aX (fH (dS s f n1 m1 n2 m2 cs rs))).toArray) (fun _=>H):=by
 refine al func43 rfl ntmps43 rfl (gG ?_);refine ze rfl (aZ rfl (fun b1=>?_));refine ze rfl (an (fun b2=>gG ?_));refine ze rfl (zc (ue hm1 hm2 hcs hrs) rfl (fun x4=>?_));refine ze rfl (zc (Ih (l:=dS s f n1 m1 n2 m2 cs rs) afz) rfl (fun x5=>?_));refine aag ?_;exact zX () [_] results43 ⟨⟨_,rfl,ak rfl⟩,trivial⟩ rfl SB
end
section
variable {a kd b num ky:Int} {α:Type} {w0:World} {H:List SA} {mk n k:Nat} {cs:Vector ax 16} {v:aj}
theorem y8(f:α->List Value)(m:Nat)(hf:∀x,(f x).length=m):∀(l:List α)(i:Nat),(l.take i).flatMap f=(l.flatMap f).take (i*m)
 |[],i=>by simp
 |x::l,0=>by simp
 |x::l,i+1=>by
   rw[List.take_succ_cons,Xw,Xw,y8 f m hf l i,List.take_append,XY,Nat.one_mul,W7 (l:=f x) (by rw[hf];omega),hf,Nat.add_sub_cancel]
theorem zI(f:α->List Value)(m:Nat)(hf:∀x,(f x).length=m):∀(l:List α)(i:Nat),(l.drop i).flatMap f=(l.flatMap f).drop (i*m)
 |[],i=>by simp
 |x::l,0=>by simp
 |x::l,i+1=>by
   rw[List.drop_succ_cons,Xw,zI f m hf l i,List.drop_append,XY,Nat.one_mul,XV (l:=f x) (by rw[hf];omega),hf,Nat.add_sub_cancel,Xh]
theorem pj(f:α->List Value)(m:Nat)(hf:∀x,(f x).length=m)(v:Vector α n)(i:Nat)(hi:i<n)(u:α):bJ f (v.set i u)=(bJ f v).take (i*m)++(f u++(bJ f v).drop ((i+1)*m)):=by
 unfold bJ;rw[Vector.toList_set,List.set_eq_take_append_cons_drop,if_pos acq,Yb,Xw,y8 f m hf,zI f m hf]
theorem oq(f:α->List Value)(m:Nat)(hf:∀x,(f x).length=m)(v:Vector α n)(i:Nat)(hi:i<n):bJ f v=(bJ f v).take (i*m)++(f v[i]++(bJ f v).drop ((i+1)*m)):=by
 rw[←pj f m hf v i hi v[i],Vector.set_getElem_self]
theorem rQ(f:α->List Value)(m:Nat)(hf:∀x,(f x).length=m)(v:Vector α n)(i:Nat)(hi:i<n):((bJ f v).take (i*m)).length=i*m:=by
 rw[Xj,dO f m hf,Nat.min_eq_left (Xp m (Nat.le_of_lt hi))]
theorem me(f:α->List Value)(m:Nat)(hf:∀x,(f x).length=m)(v:Vector α n)(i:Nat)(hi:i<n)(u:α):bD (bJ f v).toArray (i*m) (.agg (f u).toArray) (bJ f (v.set i u)).toArray:=by
 have:=bD.fr ((bJ f v).take (i*m)) (f v[i]) ((bJ f v).drop ((i+1)*m)) (cs:=(bJ f v).toArray) (o:=i*m) (n:=m) (v:= .agg (f u).toArray) (congrArg List.toArray (oq f m hf v i hi)) (rQ f m hf v i hi) (hf _) (by simp[Value.cells,hf]);rw[pj f m hf v i hi u];simpa[Value.cells]using this
theorem Oh{P:Program}{n:Fr}{S:List SA}{ops:Array Oper}{fuel i j:Nat}{listed:Array Bool}{σ:Env}{Q:iM}(hr:(Region.ready .any ops listed==[i,j,k])=true)(h:Kx P n w0 S ops fuel listed i σ H Q)(h':Kx P n w0 S ops fuel listed j σ H Q)(h'':Kx P n w0 S ops fuel listed k σ H Q):II P n w0 S ops (fuel+1) listed σ H Q:=fun a w ha hw hS=>
 wpAnyH_all (eq_of_beq hr) sm fun x hx=>by
   rcases Xg.1 hx with rfl|hx
   · exact h a w ha hw hS
   · rcases Xg.1 hx with rfl|hx
     · exact h' a w ha hw hS
     · obtain rfl:x=k:=by simpa using hx
       exact h'' a w ha hw hS
def tg(th:Bool)(n:Int):Int:=if th=true then n else 0
def jh(th:Bool)(n kd a b:Int):ax×cI:=
 if kd=1 then(⟨th,n⟩,⟨th,n⟩)else if kd=2 then(⟨true,a⟩,⟨true,n⟩)
 else if kd=3 then(⟨true,IntKind.i64.wrap (n+a)⟩,⟨true,IntKind.i64.wrap (n+a)⟩)
 else if kd=4 then(if th=true/\n=a then(⟨true,b⟩,⟨true,b⟩)else(⟨th,n⟩,⟨false,n⟩))
 else if kd=5 then(⟨false,0⟩,⟨th,n⟩)else(⟨th,n⟩,⟨false,0⟩)
def tK(cs:Vector ax 16)(kd ky a b:Int):Vector ax 16×cI:=
 if h:0<=ky/\ky<16/\1<=kd/\kd<=5 then
   let x:=cs[ky.toNat]'om
   let y:=jh x.there (tg x.there x.n) kd a b
   if kd≠1/\(kd≠4∨y.2.oK=true)then(cs.set ky.toNat y.1 om,y.2)else(cs,y.2)
 else(cs,cI.zero)
theorem k6(h:¬(0<=ky/\ky<16/\1<=kd/\kd<=5)):tK cs kd ky a b=(cs,cI.zero):=by unfold tK;rw[dif_neg h]
theorem oL(hk:k<16)(h1:1<=kd)(h5:kd<=5):tK cs kd (k:Int) a b=
   (if kd≠1/\(kd≠4∨(jh cs[k].there (tg cs[k].there cs[k].n) kd a b).2.oK=true)then(cs.set k (jh cs[k].there (tg cs[k].there cs[k].n) kd a b).1 hk,(jh cs[k].there (tg cs[k].there cs[k].n) kd a b).2)else(cs,(jh cs[k].there (tg cs[k].there cs[k].n) kd a b).2)):=by
 unfold tK;rw[dif_pos ⟨om,om,h1,h5⟩];rfl
theorem rP{x:Int}:CT prog w0 (H) 194 [.int .i64 x] (α:=Unit) (fun _=> .agg (ax.mk true x).cells) (fun _=>H):=by
 refine al func194 rfl ntmps194 rfl (gG ?_);refine ze rfl (an (fun b2=>gG ?_));refine acg ?_;refine aag ?_;exact zX () [_] results194 ⟨⟨_,rfl,ak rfl⟩,trivial⟩ rfl SB
theorem r9{th:Bool}{n:Int}:CT prog w0 (H) 264 [.agg (ax.mk th n).cells,.agg (gn.mk kd ky a b).cells] (α:=Unit) (fun _=> .tuple #[.agg (jh th (tg th n) kd a b).1.cells,.agg (jh th (tg th n) kd a b).2.cells]) (fun _=>H):=by
 refine al func264 rfl ntmps264 rfl (gG ?_);refine ze rfl (aZ rfl (fun b2=>?_));refine ze rfl (aZ rfl (fun b3=>?_));refine ze rfl (an (fun b4=>?_));refine ze rfl (an (fun b5=>?_));refine zz (zx (kT [6,7,8,9] [] (fun us H'=>us=[]/\(aF b2 (.cells (ax.mk th (tg th n)).cells 36 (0,0))::aF b3 (.cells (gn.mk kd ky a b).cells 248 (0,0))::aF b4 (.cells ax.zero.cells 36 (0,0))::aF b5 (.cells cI.zero.cells 39 (0,0))::H)=H') ?_ ?_))
 ·refine gG ?_;refine yC ?_ ?_<;>intro h8 p8
  ·have ht:th=false:=by simpa using h8
   subst ht;refine gG ?_;refine aax ?_;refine dU _ zA (⟨rfl,rfl⟩) abt
  have ht:th=true:=by simpa using h8
  subst ht;refine gG ?_;refine dU _ zA (⟨rfl,rfl⟩) abt
 rintro τc0 _ _ ⟨-,rfl⟩ _;obtain⟨m,hm⟩:∃m,m=(tg th n):=⟨_,rfl⟩;rw[←hm];refine gG ?_;refine yC ?_ ?_<;>intro h12 p12<;>refine gG ?_
 ·refine dw (aF b2 (.cells (ax.mk th m).cells 36 (0,0))::H) [(0,true),(1,true),(2,true),(3,true),(4,true),(5,true),(6,false),(7,false)] (fun hns1=>?_);refine zd hns1 rfl (zn rfl rfl) rfl (zd hns1 rfl (zf 0 rfl rfl) rfl (zd hns1 rfl (zl rfl) rfl (zd hns1 rfl (zf 1 rfl rfl) rfl (zd hns1 rfl (zl rfl) rfl (zd hns1 rfl (aA [(0,(.bool _)),(1,(.int .i64 _))] rfl kr) rfl ?_)))));refine abd ?_;refine aaE ?_;have e:jh th m kd a b=(⟨th,m⟩,⟨th,m⟩):=by unfold jh;rw[if_pos p12]
  rw[e];exact aa0
 refine yC ?_ ?_<;>intro h20 p20<;>refine gG ?_
 ·refine dw (aF b2 (.cells (ax.mk th m).cells 36 (0,0))::aF b3 (.cells (gn.mk kd ky a b).cells 248 (0,0))::H) [(0,true),(1,true),(3,true),(4,true),(5,true),(2,false),(6,false),(7,false)] (fun hns2=>?_);refine zd hns2 rfl (zf 2 rfl rfl) rfl (zd hns2 rfl (zl rfl) rfl (zd hns2 rfl (zf 1 rfl rfl) rfl (zd hns2 rfl (zl rfl) rfl (zd hns2 rfl (aA [(0,(.bool _)),(1,(.int .i64 _))] rfl kr) rfl ?_))));refine cX rfl rfl (zc (rP) rfl (fun x24=>⟨SB,?_⟩));refine abd ?_;refine aaE ?_;have e:jh th m kd a b=(⟨true,a⟩,⟨true,m⟩):=by unfold jh;rw[if_neg p12,if_pos p20]
  rw[e];exact aa0
 refine yC ?_ ?_<;>intro h28 p28
 ·refine gA ?_;refine ze rfl (zc (rP) rfl (fun x35=>?_));refine aag ?_;refine dw (aF b2 (.cells (ax.mk true (IntKind.i64.wrap (m+a))).cells 36 (0,0))::H) [(0,true),(1,true),(2,true),(3,true),(4,false),(5,false)] (fun hns3=>?_);refine zd hns3 rfl (zn rfl rfl) rfl (zd hns3 rfl (zf 1 rfl rfl) rfl (zd hns3 rfl (zl rfl) rfl (zd hns3 rfl (aA [(0,(.bool _)),(1,(.int .i64 _))] rfl kr) rfl ?_)));refine abd ?_;refine aaE ?_;have e:jh th m kd a b=(⟨true,(IntKind.i64.wrap (m+a))⟩,⟨true,(IntKind.i64.wrap (m+a))⟩):=by unfold jh;rw[if_neg p12,if_neg p20,if_pos p28]
  rw[e];exact aa0
 refine gG ?_;refine yC ?_ ?_<;>intro h40 p40<;>refine gG ?_
 ·refine yS 44 ?_ ?_<;>intro h44 p44
  ·have hth:th=true:=h44;refine gG ?_;refine yC ?_ ?_<;>intro h50 p50<;>refine gG ?_
   ·refine dw (aF b3 (.cells (gn.mk kd ky a b).cells 248 (0,0))::H) [(0,true),(1,true),(3,true),(4,true),(5,true),(2,false),(6,false),(7,false)] (fun hns4=>?_);refine zd hns4 rfl (zf 3 rfl rfl) rfl (zd hns4 rfl (zl rfl) rfl (zd hns4 rfl (zf 3 rfl rfl) rfl (zd hns4 rfl (zl rfl) rfl (zd hns4 rfl (aA [(0,(.bool _)),(1,(.int .i64 _))] rfl kr) rfl ?_))));refine cX rfl rfl (zc (rP) rfl (fun x53=>⟨SB,?_⟩));refine abd ?_;refine aaE ?_;have e:jh th m kd a b=(⟨true,b⟩,⟨true,b⟩):=by unfold jh;rw[if_neg p12,if_neg p20,if_neg p28,if_pos p40,if_pos ⟨hth,p50⟩]
    rw[e];exact aa0
   refine dw (aF b2 (.cells (ax.mk th m).cells 36 (0,0))::H) [(0,true),(1,true),(2,true),(3,true),(4,false),(5,false)] (fun hns5=>?_);refine zd hns5 rfl (zn rfl rfl) rfl (zd hns5 rfl (zf 1 rfl rfl) rfl (zd hns5 rfl (zl rfl) rfl (zd hns5 rfl (aA [(1,(.int .i64 _))] rfl kr) rfl ?_)));refine abd ?_;refine aaE ?_;have e:jh th m kd a b=(⟨th,m⟩,⟨false,m⟩):=aeg;rw[e];exact aa0
  have hth:¬(th=true/\m=a):=by rintro⟨h,-⟩;rw[h]at h44;cases h44
  refine gG ?_;refine Zi ?_;refine dw (aF b2 (.cells (ax.mk th m).cells 36 (0,0))::H) [(0,true),(1,true),(2,true),(3,true),(4,false),(5,false)] (fun hns6=>?_);refine zd hns6 rfl (zn rfl rfl) rfl (zd hns6 rfl (zf 1 rfl rfl) rfl (zd hns6 rfl (zl rfl) rfl (zd hns6 rfl (aA [(1,(.int .i64 _))] rfl kr) rfl ?_)));refine abd ?_;refine aaE ?_;have e:jh th m kd a b=(⟨th,m⟩,⟨false,m⟩):=aeg;rw[e];exact aa0
 refine yC ?_ ?_<;>intro h61 p61<;>refine gG ?_
 ·refine dw (aF b2 (.cells (ax.mk th m).cells 36 (0,0))::H) [(0,true),(1,true),(2,true),(3,true),(4,true),(5,true),(6,false),(7,false)] (fun hns7=>?_);refine zd hns7 rfl (aA [] rfl kr) rfl (zd hns7 rfl (zf 0 rfl rfl) rfl (zd hns7 rfl (zl rfl) rfl (zd hns7 rfl (zf 1 rfl rfl) rfl (zd hns7 rfl (zl rfl) rfl (zd hns7 rfl (aA [(0,(.bool _)),(1,(.int .i64 _))] rfl kr) rfl ?_)))));refine abd ?_;refine aaE ?_;have e:jh th m kd a b=(⟨false,0⟩,⟨th,m⟩):=by unfold jh;rw[if_neg p12,if_neg p20,if_neg p28,if_neg p40,if_pos p61]
  rw[e];exact aa0
 refine aaC ?_;refine aa1 ?_;refine aag ?_;have e:jh th m kd a b=(⟨th,m⟩,⟨false,0⟩):=by unfold jh;rw[if_neg p12,if_neg p20,if_neg p28,if_neg p40,if_neg p61]
 rw[e];exact aa0
instance T0{v:Vector ax 16}:Cells (bJ ax.list v).toArray 32:=Cells.list (dO _ 2 ax.ae v) (mQ _ ax.aS v)
instance Vi{v:Vector ax 16}:dh (bJ ax.list v).toArray 0 32 (bJ ax.list v).toArray:=⟨by have h:=dO _ 2 ax.ae v;apply XX<;>simp[h]⟩
instance Wi{v u:Vector ax 16}:bD (bJ ax.list v).toArray 0 (.agg (bJ ax.list u).toArray) (bJ ax.list u).toArray:=⟨by have:=fN [] (bJ ax.list v) [] (v:= .agg (bJ ax.list u).toArray) (o:=0) (n:=32) rfl (dO _ 2 ax.ae v) agu;simpa[Value.cells]using this,by simp[Value.cells,dO _ 2 ax.ae]⟩
instance VO:lT prog 37 (.agg (bJ ax.list (Vector.replicate 16 ax.zero)).toArray):=⟨kr⟩
instance Po{u:Int}:bD v.cells 1 (.int .i64 u) {v with first:=u}.cells:=by
 have:=bD.fr v.p0 v.p1 (v.view.list++(v.fM.list++(v.p4++v.p5))) (cs:=v.cells) (o:=1) (n:=1) (v:= .int .i64 u) aeI rfl rfl rfl;simpa[aj.cells,aj.list,Value.cells]using this
instance Pg{u:aH}:bD v.cells 2 (.agg u.cells) {v with view:=u}.cells:=by
 have:=bD.fr (v.p0++v.p1) v.view.list (v.fM.list++(v.p4++v.p5)) (cs:=v.cells) (o:=2) (n:=2) (v:= .agg u.cells) aeI rfl v.view.ae u.size;simpa[aj.cells,aj.list,Value.cells,aH.cells]using this
instance PH{u:aH}:bD v.cells 4 (.agg u.cells) {v with fM:=u}.cells:=by
 have:=bD.fr (v.p0++(v.p1++v.view.list)) v.fM.list (v.p4++v.p5) (cs:=v.cells) (o:=4) (n:=2) (v:= .agg u.cells) aeI afQ v.fM.ae u.size;simpa[aj.cells,aj.list,Value.cells,aH.cells]using this
instance Pt{u:Vector ax 16}:bD v.cells 6 (.agg (bJ ax.list u).toArray) {v with cs:=u}.cells:=by
 have:=bD.fr (v.p0++(v.p1++(v.view.list++v.fM.list))) v.p4 v.p5 (cs:=v.cells) (o:=6) (n:=32) (v:= .agg (bJ ax.list u).toArray) aeI afQ v.l4 agu;simpa[aj.cells,aj.list,Value.cells]using this
theorem wu(v:aj)(k:Nat)(hk:k<6)(u:ar):bD v.cells (38+k*5) (.agg u.cells) {v with last:=v.last.set k u}.cells:=by
 have:=bD.fr (v.p0++(v.p1++(v.view.list++(v.fM.list++(v.p4++v.p5.take (k*5)))))) v.last[k].list (v.p5.drop ((k+1)*5)) (cs:=v.cells) (o:=38+k*5) (n:=5) (v:= .agg u.cells)
   (by
     rw[aj.cells,aj.list];conv=>lhs;rw[show v.p5=_ from oq ar.list 5 ar.ae v.last k hk]
     simp only[W4])
   (by simp only[WX,aH.ae,v.l4,rQ ar.list 5 ar.ae v.last k hk,XB];omega) (ar.ae _) u.size
 simpa[aj.cells,aj.list,Value.cells,ar.cells,pj ar.list 5 ar.ae v.last k hk u]using this
theorem Dj(hk:k<16)(h1:1<=kd)(h5:kd<=5){y:ax×cI}(hy:y=jh cs[k].there (tg cs[k].there cs[k].n) kd a b)(h:kd≠1/\(kd≠4∨y.2.oK=true)):tK cs kd (k:Int) a b=(cs.set k y.1 hk,y.2):=by
 subst hy;rw[oL hk h1 h5,if_pos h]
theorem De(hk:k<16)(h1:1<=kd)(h5:kd<=5){y:ax×cI}(hy:y=jh cs[k].there (tg cs[k].there cs[k].n) kd a b)(h:¬(kd≠1/\(kd≠4∨y.2.oK=true))):tK cs kd (k:Int) a b=(cs,y.2):=by
 subst hy;rw[oL hk h1 h5,if_neg h]
def iC(num:Int)(mk:Nat)(a:Int):aH×Int:=
 if dC num mk=false∨a<0∨65535<a then(aH.zero,3)else if dC (num+1) a.toNat=false then(aH.zero,3)else(⟨num+1,a⟩,0)
theorem lV(h:dC num mk=false∨a<0∨65535<a):iC num mk a=(aH.zero,3):=if_pos h
theorem ye{m:Nat}(h:dC (num+1) m=false):iC num mk (m:Int)=(aH.zero,3):=by
 unfold iC;split
 · rfl
 · rw[XA,if_pos h]
theorem CQ{m:Nat}(h0:dC num mk=true)(hm:m<=65535)(h:dC (num+1) m=true):iC num mk (m:Int)=(⟨num+1,(m:Int)⟩,0):=by
 unfold iC;rw[if_neg (by rw[h0];simp;omega),XA,if_neg (by rw[h];simp)]
theorem kx(h:dC num mk=true):0<=num/\num<=60:=by simp only[dC,decide_eq_true_eq]at h;omega
theorem L0(hmk:mk<65536):CT prog w0 (H) 224 [.agg (aH.mk num (mk:Int)).cells,.int .i64 a] (α:=Unit) (fun _=> .tuple #[.agg (iC num mk a).1.cells,.int .i64 (iC num mk a).2]) (fun _=>H):=by
 refine al func224 rfl ntmps224 rfl (gG ?_);refine ze rfl (aZ rfl (fun b2=>?_));refine ze rfl (an (fun b4=>gG ?_));refine ze rfl (zc (pZ hmk) rfl (fun x8=>gG ?_));refine yS 10 ?_ ?_<;>intro h10 p10<;>refine gG ?_
 ·refine Zc ?_;refine aaC ?_;refine aag ?_;rw[lV acE];exact abZ
 refine yS 14 ?_ ?_<;>intro h14 p14<;>refine gG ?_
 ·refine Zc ?_;refine aaC ?_;refine aag ?_;rw[lV acE];exact abZ
 refine yC ?_ ?_<;>intro h17 p17
 ·refine gG ?_;refine aaC ?_;refine aag ?_;rw[lV acE];exact abZ
 have hr0:dC num mk=true:=afs;have hnr:=kx hr0;obtain⟨m,rfl⟩:∃m:Nat,a=(m:Int):=⟨a.toNat,om⟩;refine gA ?_;refine ae6 ?_;rw[kM .u16 rfl afN];refine acM ?_;refine ze rfl (an (fun b6=>?_));refine aag ?_;refine ze rfl (zc (pZ (mk:=m) om) rfl (fun x26=>gG ?_));refine yC ?_ ?_<;>intro h27 p27
 ·have hr1:dC (num+1) m=false:=by simpa using h27
  refine gG ?_;refine aaC ?_;refine aag ?_;rw[ye hr1];exact abZ
 have hr1:dC (num+1) m=true:=by simpa using h27
 refine gG ?_;refine aag ?_;rw[CQ hr0 om hr1];exact abZ
theorem I9(hmk:mk<65536):CT prog w0 (H) 152 [.agg (aH.mk num (mk:Int)).cells,.int .i64 a] (α:=Unit) (fun _=> .tuple #[.agg (iC num mk a).1.cells,.int .i64 (iC num mk a).2]) (fun _=>H):=by
 refine al func152 rfl ntmps152 rfl (gG ?_);refine ze rfl (aZ rfl (fun b2=>?_));refine ze rfl (an (fun b4=>gG ?_));refine ze rfl (zc (sr hmk) rfl (fun x8=>gG ?_));refine yS 10 ?_ ?_<;>intro h10 p10<;>refine gG ?_
 ·refine Zc ?_;refine aaC ?_;refine aag ?_;rw[lV acE];exact ab0
 refine yS 14 ?_ ?_<;>intro h14 p14<;>refine gG ?_
 ·refine Zc ?_;refine aaC ?_;refine aag ?_;rw[lV acE];exact ab0
 refine yC ?_ ?_<;>intro h17 p17
 ·refine gG ?_;refine aaC ?_;refine aag ?_;rw[lV acE];exact ab0
 have hr0:dC num mk=true:=afs;have hnr:=kx hr0;obtain⟨m,rfl⟩:∃m:Nat,a=(m:Int):=⟨a.toNat,om⟩;refine gA ?_;refine ae6 ?_;rw[kM .u16 rfl afN];refine acM ?_;refine ze rfl (an (fun b6=>?_));refine aag ?_;refine ze rfl (zc (sr (mk:=m) om) rfl (fun x26=>gG ?_));refine yC ?_ ?_<;>intro h27 p27
 ·have hr1:dC (num+1) m=false:=by simpa using h27
  refine gG ?_;refine aaC ?_;refine aag ?_;rw[ye hr1];exact ab0
 have hr1:dC (num+1) m=true:=by simpa using h27
 refine gG ?_;refine aag ?_;rw[CQ hr0 om hr1];exact ab0
theorem NM:CT prog w0 (H) 225 [.agg (bJ ax.list cs).toArray,.agg (gn.mk kd ky a b).cells] (α:=Unit) (fun _=> .tuple #[.agg (bJ ax.list (tK cs kd ky a b).1).toArray,.agg (tK cs kd ky a b).2.cells]) (fun _=>H):=by
 refine al func225 rfl ntmps225 rfl (gG ?_);refine ze rfl (aZ rfl (fun b2=>?_));refine ze rfl (aZ rfl (fun b3=>?_));refine ze rfl (an (fun b4=>?_));refine ze rfl (an (fun b5=>gG ?_));refine yS 11 ?_ ?_<;>intro h11 p11<;>refine gG ?_
 ·refine Zc ?_;refine aaC ?_;refine aa1 ?_;refine aag ?_;rw[k6 om];exact abK
 refine yS 16 ?_ ?_<;>intro h16 p16<;>refine gG ?_
 ·refine Zc ?_;refine aaC ?_;refine aa1 ?_;refine aag ?_;rw[k6 om];exact abK
 refine yS 21 ?_ ?_<;>intro h21 p21<;>refine gG ?_
 ·refine Zc ?_;refine aaC ?_;refine aa1 ?_;refine aag ?_;rw[k6 om];exact abK
 refine yC ?_ ?_<;>intro h25 p25
 ·refine gG ?_;refine aaC ?_;refine aa1 ?_;refine aag ?_;rw[k6 om];exact abK
 obtain⟨k,rfl⟩:∃k:Nat,ky=(k:Int):=⟨ky.toNat,om⟩;have hk16:k<16:=om;have h1:1<=kd:=om;have h5:kd<=5:=om;obtain⟨y,hy⟩:∃y,y=jh cs[k].there (tg cs[k].there cs[k].n) kd a b:=⟨_,rfl⟩;have hsk:dh (bJ ax.list cs).toArray (k*2) 2 cs[k].cells:=vU _ 2 ax.ae cs k hk16;refine zk (zx (kT [6,7,28,29,30,31,32,33,34,35,36] [6,7] (fun us H'=>∃b6 b7:Nat,us=[.pointer (some ⟨b6,0,none⟩),.pointer (some ⟨b7,0,none⟩)]/\(aF b2 (.cells (bJ ax.list cs).toArray 37 (0,0))::aF b3 (.cells (gn.mk kd (k:Int) a b).cells 248 (0,0))::aF b4 (.cells (bJ ax.list (Vector.replicate 16 ax.zero)).toArray 37 (0,0))::aF b5 (.cells cI.zero.cells 39 (0,0))::aF b6 (.cells y.1.cells 36 (0,0))::aF b7 (.cells y.2.cells 39 (0,0))::H)=H') ?_ ?_))
 ·refine jC (aF b2 (.cells (bJ ax.list cs).toArray 37 (0,0))::aF b3 (.cells (gn.mk kd (k:Int) a b).cells 248 (0,0))::H) kr SB (bz (i:=0) kr rfl kr kr (zf 1 rfl rfl) rfl (bz (i:=1) kr rfl kr kr (zl rfl) rfl (bz (i:=2) kr rfl kr kr (aQ (sz:=2) (k*2) k rfl rfl underlying37 rfl rfl ac3 om) rfl (bz (i:=3) kr rfl kr kr (zn rfl (by rw[Nat.ble_eq];omega)) rfl (bz (i:=4) kr rfl kr kr (zn rfl rfl) rfl ?_)))));refine Oh (i:=5) (j:=9) (k:=10) kr ?_ ?_ ?_
  ·refine cq rfl rfl (zc (r9 (th:=cs[k].there) (n:=cs[k].n) (kd:=kd) (ky:=(k:Int)) (a:=a) (b:=b)) rfl (fun x34=>⟨SB,?_⟩));rw[←hy];refine aba ?_;refine nn (i:=9) (j:=10) kr ?_ ?_
   ·refine cq rfl rfl (an (fun b6=>⟨SB,?_⟩));refine adZ ?_;refine cq rfl rfl (an (fun b7=>⟨SB,?_⟩));refine ab4 ?_;refine aa7 ?_;refine ad0 ?_;refine aa7 ?_;refine eH kr ?_;refine dU _ zA (⟨b6,b7,rfl,rfl⟩) (SB)
   refine cq rfl rfl (an (fun b7=>⟨SB,?_⟩));refine adl ?_;refine cq rfl rfl (an (fun b6=>⟨SB,?_⟩));refine ab4 ?_;refine aa7 ?_;refine ad0 ?_;refine aa7 ?_;refine eH kr ?_;refine dU _ zA (⟨b6,b7,rfl,rfl⟩) (SB)
  ·refine cq rfl rfl (an (fun b6=>⟨SB,?_⟩));refine nn (i:=5) (j:=10) kr ?_ ?_
   ·refine cq rfl rfl (zc (r9 (th:=cs[k].there) (n:=cs[k].n) (kd:=kd) (ky:=(k:Int)) (a:=a) (b:=b)) rfl (fun x34=>⟨SB,?_⟩));rw[←hy];refine aba ?_;refine adZ ?_;refine cq rfl rfl (an (fun b7=>⟨SB,?_⟩));refine ab4 ?_;refine aa7 ?_;refine ad0 ?_;refine aa7 ?_;refine eH kr ?_;refine dU _ zA (⟨b6,b7,rfl,rfl⟩) (SB)
   refine cq rfl rfl (an (fun b7=>⟨SB,?_⟩));refine ad9 ?_;refine cq rfl rfl (zc (r9 (th:=cs[k].there) (n:=cs[k].n) (kd:=kd) (ky:=(k:Int)) (a:=a) (b:=b)) rfl (fun x34=>⟨SB,?_⟩));rw[←hy];refine aba ?_;refine ab4 ?_;refine aa7 ?_;refine ad0 ?_;refine aa7 ?_;refine eH kr ?_;refine dU _ zA (⟨b6,b7,rfl,rfl⟩) (SB)
  refine cq rfl rfl (an (fun b7=>⟨SB,?_⟩));refine nn (i:=5) (j:=9) kr ?_ ?_
  ·refine cq rfl rfl (zc (r9 (th:=cs[k].there) (n:=cs[k].n) (kd:=kd) (ky:=(k:Int)) (a:=a) (b:=b)) rfl (fun x34=>⟨SB,?_⟩));rw[←hy];refine aba ?_;refine adl ?_;refine cq rfl rfl (an (fun b6=>⟨SB,?_⟩));refine ab4 ?_;refine aa7 ?_;refine ad0 ?_;refine aa7 ?_;refine eH kr ?_;refine dU _ zA (⟨b6,b7,rfl,rfl⟩) (SB)
  refine cq rfl rfl (an (fun b6=>⟨SB,?_⟩));refine ad9 ?_;refine cq rfl rfl (zc (r9 (th:=cs[k].there) (n:=cs[k].n) (kd:=kd) (ky:=(k:Int)) (a:=a) (b:=b)) rfl (fun x34=>⟨SB,?_⟩));rw[←hy];refine aba ?_;refine ab4 ?_;refine aa7 ?_;refine ad0 ?_;refine aa7 ?_;refine eH kr ?_;refine dU _ zA (⟨b6,b7,rfl,rfl⟩) (SB)
 rintro τc0 _ _ ⟨b6,b7,rfl,rfl⟩ _;refine kT [37,38,39,40,41,42,43,44,45,46,47,48,49,50,51,52] [] (fun us H'=>∃ds,us=[]/\(aF b2 (.cells (bJ ax.list ds).toArray 37 (0,0))::aF b3 (.cells (gn.mk kd (k:Int) a b).cells 248 (0,0))::aF b4 (.cells (bJ ax.list (Vector.replicate 16 ax.zero)).toArray 37 (0,0))::aF b5 (.cells cI.zero.cells 39 (0,0))::aF b6 (.cells y.1.cells 36 (0,0))::aF b7 (.cells y.2.cells 39 (0,0))::H)=H'/\tK cs kd (k:Int) a b=(ds,y.2)) ?_ ?_
 ·refine gG ?_;refine yS 40 ?_ ?_<;>intro h40 p40<;>refine gG ?_
  ·refine yS 44 ?_ ?_<;>intro h44 p44<;>refine gG ?_
   ·refine aI rfl rfl ?_;have hput:bD (bJ ax.list cs).toArray (k*2) (.agg (y.1:ax).cells) (bJ ax.list (cs.set k y.1 hk16)).toArray:=me ax.list 2 ax.ae cs k hk16 y.1;refine gG ?_;refine zq (aQ (sz:=2) (k*2) k rfl rfl underlying37 rfl rfl ac3 om) rfl ?_;refine aag ?_;refine dU _ zA aaS (SB)
   refine yC ?_ ?_<;>intro h48 p48
   ·have hput:bD (bJ ax.list cs).toArray (k*2) (.agg (y.1:ax).cells) (bJ ax.list (cs.set k y.1 hk16)).toArray:=me ax.list 2 ax.ae cs k hk16 y.1;refine gG ?_;refine zq (aQ (sz:=2) (k*2) k rfl rfl underlying37 rfl rfl ac3 om) rfl ?_;refine aag ?_;refine dU _ zA aaS (SB)
   refine gG ?_;refine dU _ zA aaS (SB)
  refine Zi ?_;refine dU _ zA aaS (SB)
 rintro τc1 _ _ ⟨ds,-,rfl,hds⟩ _;refine gG ?_;refine dw (aF b2 (.cells (bJ ax.list ds).toArray 37 (0,0))::aF b7 (.cells y.2.cells 39 (0,0))::H) [(0,true),(1,true),(2,false),(3,false)] (fun hns2=>?_);refine gA ?_;refine abd ?_;refine aaE ?_;rw[hds];exact abK
end
end Go.Proofs.YtmbfimckmfnnjaaGreatDoor
