/- Steps of the proof of a law. -/
import Derived.Test.YtmbfimckmfnnjaaGreatDoorQ19
set_option maxRecDepth 100000
set_option maxHeartbeats 1000000
set_option linter.unusedSimpArgs false
set_option linter.unusedVariables false
namespace Go.Proofs.YtmbfimckmfnnjaaGreatDoor
open Go.RowKit Go.Sx Go.Proofs.Tryz
variable {l r:List UInt8} {k:Nat} {v:dm}
theorem j5{x n:Nat}(h:l.drop k=fixed x n++r)(hn:fQ n=true)(hx:x<256^n):(bx (l.drop k) n).1=0/\(bx (l.drop k) n).2.1=x/\(bx (l.drop k) n).2.2=n/\l.drop (k+n)=r/\k+n<=l.length:=by
 have e:=ql x n r hn hx;rw[←h]at e;have h1:=sN h;have h2:=o9 hn;have h3:=Aj h aez;rw[aO]at h1 h3;rw[e];exact⟨rfl,rfl,rfl,h1,h3⟩
theorem ix{t:List UInt8}{m:Int}(h:l.drop k=aY t++r)(ht:t.length<18446744073709551616)(hm:(t.length:Int)<=m):(au (l.drop k) m).1=0/\(au (l.drop k) m).2.1=t/\(au (l.drop k) m).2.2=(aY t).length/\l.drop (k+(aY t).length)=r/\k+(aY t).length<=l.length:=by
 have e:=tA t m r ht hm;rw[show packed t.length++t++r=aY t++r from rfl,←h]at e;have h0:0<(aY t).length:=by
   have:0<(packed t.length).length:=by unfold packed;split<;>simp
   simp[aY];omega
 rw[e];exact⟨rfl,rfl,rfl,sN h,Aj h h0⟩
theorem wR{x:Nat}{m:Int}(h:l.drop k=packed x++r)(hx:x<18446744073709551616)(hm:(x:Int)<=m):(ay (l.drop k) m).1=0/\(ay (l.drop k) m).2.1=x/\(ay (l.drop k) m).2.2=(packed x).length/\l.drop (k+(packed x).length)=r/\k+(packed x).length<=l.length:=by
 have e:=mf x m r hx hm;rw[←h]at e;rw[e];exact⟨rfl,rfl,rfl,sN h,Aj h (by unfold packed;split<;>simp)⟩
theorem qH(c:UInt8):fixed c.toNat 1=[c]:=by
 have:=c.toNat_lt;simp[fixed,Yu]
def oJ(h:Vector UInt8 32)(i:Nat):Vector UInt8 32:=Vector.ofFn fun j=>if j.val<i then h[j]else 0
theorem yg(h:Vector UInt8 32):oJ h 0=zeroV 32:=by
 apply Yv;intro i hi;simp[oJ,zeroV]
theorem Bv(h:Vector UInt8 32):oJ h 32=h:=by
 apply Yv;intro i hi;simp[oJ,hi]
theorem C2(h:Vector UInt8 32)(i:Nat)(hi:i<32):(oJ h i).set i h[i]=oJ h (i+1):=by
 apply Yv;intro j hj;by_cases e:i=j
 · subst e;simp[oJ]
 · rw[YJ _ _ e]
   simp only[oJ,YF,Fin.getElem_fin];by_cases h1:j<i<;>simp[h1]<;>omega
theorem yo(h:Vector UInt8 32)(i:Nat)(hi:i<32)(c:UInt8):aX (h.set i c)=(aX h).take i++(jM c::(aX h).drop (i+1)):=by
 have e:aX (h.set i c)=(aX h).set i (jM c):=by simp[aX,aE,List.map_set,Vector.toList_set]
 rw[e,List.set_eq_take_append_cons_drop,if_pos acq]
theorem af.Mj(v:af)(i:Nat)(hi:i<32)(c:UInt8):bD v.cells (4+i) (.int .u8 (c.toNat:Int)) ({v with hash:=v.hash.set i c}:af).cells:=by
 have hl:(aX v.hash).length=32:=sm;have e1:aX v.hash=(aX v.hash).take i++((aX v.hash).drop i).take 1++(aX v.hash).drop (i+1):=by
   rw[W4,←X2,XC,XC]
 have:=bD.fr (([.int .i64 v.kind]:List Value)++(([.int .i64 v.view]:List Value)++(([.int .i64 v.dZ]:List Value)++(([.int .i64 v.slot]:List Value)++(aX v.hash).take i)))) (((aX v.hash).drop i).take 1) ((aX v.hash).drop (i+1)++(([.slice v.batch.a v.batch.l.length v.batch.c]:List Value)++([.slice v.cert.a v.cert.ls.length v.cert.c]:List Value))) (cs:=v.cells) (o:=4+i) (n:=1) (v:= .int .u8 (c.toNat:Int))
   (by
     conv=>lhs;rw[af.cells,af.list,e1]
     simp only[W4,XG,Xh]) so so rfl
 have e2:({v with hash:=v.hash.set i c}:af).cells=((([.int .i64 v.kind]:List Value)++(([.int .i64 v.view]:List Value)++(([.int .i64 v.dZ]:List Value)++(([.int .i64 v.slot]:List Value)++(aX v.hash).take i))))++((Value.int .u8 (c.toNat:Int)).cells.toList++((aX v.hash).drop (i+1)++(([.slice v.batch.a v.batch.l.length v.batch.c]:List Value)++([.slice v.cert.a v.cert.ls.length v.cert.c]:List Value))))).toArray:=by
   rw[af.cells,af.list];simp only[yo v.hash i hi c,Value.cells,jM,W4,XG,Xh]
 rw[e2];exact this
theorem FY(hf:df v=true):∃kn vn rn sn:Nat,v.kind=kn/\v.view=vn/\v.dZ=rn/\v.slot=sn/\kn<256/\vn<256/\rn<256/\sn<256/\
   told v=fixed kn 1++(fixed vn 2++(fixed rn 2++(fixed sn 2++(v.hash.toList++(aY v.batch++(packed v.cert.length++texts v.cert)))))):=by
 obtain⟨h1,h2,⟨h3,h4⟩,⟨h5,h6⟩,⟨h7,h8⟩,-⟩:=(aD v).1 hf;obtain⟨kn,e1⟩:=Xl (show 0<=v.kind by omega);obtain⟨vn,e2⟩:=Xl h3;obtain⟨rn,e3⟩:=Xl h5;obtain⟨sn,e4⟩:=Xl h7;have u:∀n:Nat,n<256->(u64 (n:Int)).toNat=n:=fun n hn=>by
   unfold u64;rw[wrap_u64 om om];rfl
 refine⟨kn,vn,rn,sn,e1,e2,e3,e4,om,om,om,om,?_⟩;simp only[told,head,jH,LR,e1,e2,e3,e4,u kn om,u vn om,u rn om,u sn om,W4]
theorem yH:v.batch.length<=(told v).length/\∀c∈v.cert,c.length<=(told v).length:=by
 refine⟨by simp[told,head,aY];omega,fun c hc=>?_⟩;have:c.length<=(texts v.cert).length:=by
   obtain⟨a,b,h⟩:=List.append_of_mem hc;rw[h];simp[texts,aY];omega
 simp only[told,WX];omega
theorem OJ{w0:World}{H:List SA}{a:Option Addr}{c:Nat}[hr:dT w0 H (.slice a l.length c) l](hl:l=told v)(hf:df v=true)(hlen:l.length<=65536)(hcl:v.cert.length<=16):CT prog w0 (H) 73 [.slice a l.length c] (α:=af×List Nat) (fun y=> .tuple #[.agg y.1.cells,.int .i64 0]) (fun y=>pu (y.1.abs=v)::eG y.2 [y.1]::H):=by
 obtain⟨kn,vn,rn,sn,h1k,h2k,h3k,h4k,hk8,hv8,hr8,hs8,hft⟩:=FY hf;have htl:=yH (v:=v);rw[←hl]at htl;refine al func73 rfl ntmps73 rfl (gG ?_);refine ze rfl (an (fun b2=>gG ?_));refine yC ?_ ?_<;>intro h20 p20
 ·exact absurd p20 om
 refine gG ?_;refine ze rfl (zc (lD om) rfl (fun x23=>?_));refine aV (fun hb=>?_);rw[hl,hft]at hb;have hbl:x23.2.l.length<=65536:=by rw[hb,←hft,←hl];exact hlen
 have hd0:x23.2.l.drop 0=fixed kn 1++_:=hb;refine gG ?_;refine ze rfl (an (fun b5=>gG ?_));refine ZM ?_;refine gD (cc ?_);refine gG ?_;refine Ze ?_;refine Zq ?_;refine aU x23.1 ?_;refine ze rfl (zc (jW (b:=x23.2) (k:=0) (n:=((1:Nat):Int)) om om) rfl (fun x35=>?_));obtain⟨e1,e2,e3,hd1,hle1⟩:=j5 hd0 rfl om;rw[e1,e2,e3];refine gG ?_;refine Zb ?_;refine Zh ?_;refine aaI ?_;refine Zf ?_;refine Ze ?_;refine Zq ?_;refine aU x23.1 ?_;refine ze rfl (zc (jW (b:=x23.2) (k:=0+1) (n:=((2:Nat):Int)) om om) rfl (fun x35=>?_));obtain⟨e1,e2,e3,hd2,hle2⟩:=j5 hd1 rfl om;rw[e1,e2,e3];refine gG ?_;refine Zb ?_;refine Zh ?_;refine aaI ?_;refine Zf ?_;refine Ze ?_;refine Zq ?_;refine aU x23.1 ?_;refine ze rfl (zc (jW (b:=x23.2) (k:=0+1+2) (n:=((2:Nat):Int)) om om) rfl (fun x35=>?_));obtain⟨e1,e2,e3,hd3,hle3⟩:=j5 hd2 rfl om;rw[e1,e2,e3];refine gG ?_;refine Zb ?_;refine Zh ?_;refine aaI ?_;refine Zf ?_;refine Ze ?_;refine Zq ?_;refine aU x23.1 ?_;refine ze rfl (zc (jW (b:=x23.2) (k:=0+1+2+2) (n:=((2:Nat):Int)) om om) rfl (fun x35=>?_));obtain⟨e1,e2,e3,hd4,hle4⟩:=j5 hd3 rfl om;rw[e1,e2,e3];refine gG ?_;refine Zb ?_;refine Zh ?_;refine aaI ?_;refine Zf ?_;refine Zb ?_;refine Zl ?_
 refine bH [3,11,12,13,47,48,49,50,51,52,53,54,55,56,57,58,59,60,61,62,63,64] [47] (fun us H'=>∃(i:Nat),us=[.int .i64 (i:Int)]/\aF x23.1 (.cells (bf.mk x23.2 ((((((0+1)+2)+2)+2)+i:Nat):Int)).cells 192 (0,0))::aF b5 (.cells (af.mk (kn:Int) (vn:Int) (rn:Int) (sn:Int) (oJ v.hash i) ⟨none,0,[]⟩ ⟨none,0,[]⟩).cells 57 (0,0))::aF b2 (.cells af.zero.cells 57 (0,0))::row (.slice x23.2.a x23.2.l.length x23.2.c) 5 1 (aE x23.2.l)::H=H'/\i<=32/\(((((0+1)+2)+2)+2)+i<=x23.2.l.length)/\(x23.2.l.drop (((((0+1)+2)+2)+2)+i)=v.hash.toList.drop i++(aY v.batch++(packed v.cert.length++texts v.cert)))) (fun us=>match us with| .int _ i::_=>32-i.toNat|_=>0) ⟨0,rfl,rfl,om,hle4,hd4⟩ (fun w hw=>by
  rw[yg];exact(SB w hw:St w0 (aF x23.1 (.cells (bf.mk x23.2 ((((((0+1)+2)+2)+2):Nat):Int)).cells 192 (0,0))::aF b5 (.cells ({af.zero with kind:=(kn:Int),view:=(vn:Int),dZ:=(rn:Int),slot:=(sn:Int)}:af).cells 57 (0,0))::aF b2 (.cells af.zero.cells 57 (0,0))::row (.slice x23.2.a x23.2.l.length x23.2.c) 5 1 (aE x23.2.l)::H) w)) ?_
 rintro τ1 _ _ ⟨i,rfl,rfl,hi0,hie,hdh⟩ _;refine gG ?_;refine yC ?_ ?_<;>intro h48 p48
 ·refine gG ?_;refine aU x23.1 ?_;have hi:i<32:=om;have hdi:x23.2.l.drop (((((0+1)+2)+2)+2)+i)=fixed v.hash[i].toNat 1++(v.hash.toList.drop (i+1)++(aY v.batch++(packed v.cert.length++texts v.cert))):=by
   rw[qH,hdh,Xu acq];simp
  refine ze rfl (zc (jW (b:=x23.2) (k:=((((0+1)+2)+2)+2)+i) (n:=((1:Nat):Int)) om om) rfl (fun x52=>?_));obtain⟨e1,e2,e3,hd5,hle5⟩:=j5 hdi rfl (by have:=v.hash[i].toNat_lt;omega);rw[e1,e2,e3];refine gG ?_;refine Zb ?_;refine aby ?_;rw[kM .u8 rfl (by have:=v.hash[i].toNat_lt;show _<2^8;omega)];have hput:bD ((af.mk (kn:Int) (vn:Int) (rn:Int) (sn:Int) (oJ v.hash i) ⟨none,0,[]⟩ ⟨none,0,[]⟩)).cells (4+(i:Int).toNat*1) (.int .u8 (v.hash[i].toNat:Int)) ((af.mk (kn:Int) (vn:Int) (rn:Int) (sn:Int) (oJ v.hash (i+1)) ⟨none,0,[]⟩ ⟨none,0,[]⟩)).cells:=by
   have h1:=af.Mj (af.mk (kn:Int) (vn:Int) (rn:Int) (sn:Int) (oJ v.hash i) ⟨none,0,[]⟩ ⟨none,0,[]⟩) i hi v.hash[i];rw[show({(af.mk (kn:Int) (vn:Int) (rn:Int) (sn:Int) (oJ v.hash i) ⟨none,0,[]⟩ ⟨none,0,[]⟩)with hash:=(oJ v.hash i).set i v.hash[i]}:af)=(af.mk (kn:Int) (vn:Int) (rn:Int) (sn:Int) (oJ v.hash (i+1)) ⟨none,0,[]⟩ ⟨none,0,[]⟩)from by rw[←C2 v.hash i hi]]at h1;rw[show 4+(i:Int).toNat*1=4+i from by simp];exact h1
  refine gG ?_;refine adS ?_;refine adD ?_;refine bW _ zA (⟨i+1,rfl,rfl,om,hle5,hd5⟩) aeF (SB)
 have hi:i=32:=om;subst hi;rw[Bv];have hd32:x23.2.l.drop (((((0+1)+2)+2)+2)+32)=aY v.batch++(packed v.cert.length++texts v.cert):=by rw[hdh,XV sm];rfl
 refine gG ?_;refine Za ?_;refine aU x23.1 ?_;refine ze rfl (zc (kN (b:=x23.2) (k:=((((0+1)+2)+2)+2)+32) (m:=65536) om om dc) rfl (fun x67=>?_));obtain⟨e1,e2,e3,hd6,hle6⟩:=ix hd32 om (by omega:(v.batch.length:Int)<=65536);rw[e1,e2,e3];refine gG ?_;refine zq (zf 36 rfl rfl) rfl ?_;refine aaM ?_;refine Zb ?_;refine aU x23.1 ?_;refine ze rfl (zc (sg (b:=x23.2) (k:=((((0+1)+2)+2)+2)+32+(aY v.batch).length) (m:=16) om om dc) rfl (fun x77=>?_));obtain⟨e1,e2,e3,hd7,hle7⟩:=wR hd6 om (by omega:(v.cert.length:Int)<=16);rw[e1,e2,e3];refine gG ?_;refine Zb ?_;refine bH [3,16,17,85,86,87,88,89,90,91,92,93,94,95,96,97,98,99,100,101,102] [85] (fun us H'=>∃(k:Nat)(q:Nat)(a:Option Addr)(c:Nat)(ls:List BS)(fp:List Nat),us=[.int .i64 (k:Int)]/\row (.slice a ls.length c) 47 1 (ls.map BS.val)::ep fp ls::aF x23.1 (.cells (bf.mk x23.2 ((q:Nat):Int)).cells 192 (0,0))::aF b5 (.cells (af.mk (kn:Int) (vn:Int) (rn:Int) (sn:Int) v.hash ⟨x67.a,x67.c,v.batch⟩ ⟨a,c,ls⟩).cells 57 (0,0))::row (.slice x67.a v.batch.length x67.c) 5 1 (aE v.batch)::aF b2 (.cells af.zero.cells 57 (0,0))::row (.slice x23.2.a x23.2.l.length x23.2.c) 5 1 (aE x23.2.l)::H=H'/\k<=v.cert.length/\(x23.2.l.drop q=texts (v.cert.drop k))/\(ls.map BS.l=v.cert.take k)/\(q<=x23.2.l.length)) (fun us=>match us with| .int _ i::_=>v.cert.length-i.toNat|_=>0) ⟨0,(((((0+1)+2)+2)+2)+32+(aY v.batch).length+(packed v.cert.length).length),none,0,[],[],rfl,rfl,om,hd7,rfl,hle7⟩ (fun w hw=>by
  have h0:St w0 (aF x23.1 (.cells (bf.mk x23.2 (((((((0+1)+2)+2)+2)+32+(aY v.batch).length+(packed v.cert.length).length):Nat):Int)).cells 192 (0,0))::aF b5 (.cells (af.mk (kn:Int) (vn:Int) (rn:Int) (sn:Int) v.hash ⟨x67.a,x67.c,v.batch⟩ ⟨none,0,[]⟩).cells 57 (0,0))::row (.slice x67.a v.batch.length x67.c) 5 1 (aE v.batch)::aF b2 (.cells af.zero.cells 57 (0,0))::row (.slice x23.2.a x23.2.l.length x23.2.c) 5 1 (aE x23.2.l)::H) w:=SB w hw;exact(h0.pO).cT 47 1) ?_
 rintro τ2 _ _ ⟨k,q,a,c,ls,fp,rfl,rfl,hk0,hdq,hls,hqe⟩ _;have hll:ls.length=k:=aht;refine gG ?_;refine yC ?_ ?_<;>intro h86 p86
 ·have hk:k<v.cert.length:=om;refine gG ?_;refine aU x23.1 ?_;have hdk:x23.2.l.drop q=aY v.cert[k]++texts (v.cert.drop (k+1)):=by rw[hdq,←uT];congr 1;exact Xu hk
  have hck:=htl.2 v.cert[k] (W1 hk);refine ze rfl (zc (kN (b:=x23.2) (k:=q) (m:=65536) om om dc) rfl (fun x89=>?_));obtain⟨e1,e2,e3,hd8,hle8⟩:=ix hdk om (by omega:(v.cert[k].length:Int)<=65536);rw[e1,e2,e3];refine gG ?_;refine Zb ?_;refine Zj ?_;refine ze rfl (dH (v:= .slice _ _ _) rfl (fun a99 c99=>?_));refine ze rfl (ot (sv:= .slice _ _ _) (xv:= .slice _ _ _) ⟨x89.a,x89.c,v.cert[k]⟩ rfl rfl om rfl (fun a100 c100=>?_));refine zq (zf 37 rfl rfl) rfl ?_;refine adx ?_;refine bW _ zA (⟨k+1,_,a100,c100,ls++[⟨x89.a,x89.c,v.cert[k]⟩],bQ (.slice x89.a v.cert[k].length x89.c)++fp,rfl,rfl,om,hd8,by rw[Xi,hls,fR _ _ hk];rfl,hle8⟩) (by show v.cert.length-(k+1:Int).toNat<v.cert.length-(k:Int).toNat;omega) (fun w hw=>by
   have h1:St w0 (row (.slice a100 (ls++[(⟨x89.a,x89.c,v.cert[k]⟩:BS)]).length c100) 47 1 ((ls++[(⟨x89.a,x89.c,v.cert[k]⟩:BS)]).map BS.val)::row (BS.val ⟨x89.a,x89.c,v.cert[k]⟩) 5 1 (aE (BS.l ⟨x89.a,x89.c,v.cert[k]⟩))::ep fp ls::aF x23.1 (.cells (bf.mk x23.2 ((q+(aY v.cert[k]).length:Nat):Int)).cells 192 (0,0))::aF b5 (.cells (af.mk (kn:Int) (vn:Int) (rn:Int) (sn:Int) v.hash ⟨x67.a,x67.c,v.batch⟩ ⟨a100,c100,ls++[⟨x89.a,x89.c,v.cert[k]⟩]⟩).cells 57 (0,0))::row (.slice x67.a v.batch.length x67.c) 5 1 (aE v.batch)::aF b2 (.cells af.zero.cells 57 (0,0))::row (.slice x23.2.a x23.2.l.length x23.2.c) 5 1 (aE x23.2.l)::H) w:=SB w hw;exact ng h1)
 have hk:k=v.cert.length:=om;rw[hk,List.drop_length]at hdq;rw[hk,XE]at hls;have hql:x23.2.l.length<=q:=YL.1 hdq;have hfu:df ((af.mk (kn:Int) (vn:Int) (rn:Int) (sn:Int) v.hash ⟨x67.a,x67.c,v.batch⟩ ⟨a,c,ls⟩)).abs=true:=by
  rw[show((af.mk (kn:Int) (vn:Int) (rn:Int) (sn:Int) v.hash ⟨x67.a,x67.c,v.batch⟩ ⟨a,c,ls⟩)).abs=v from by simp only[af.abs,hls,←h1k,←h2k,←h3k,←h4k]];exact hf
 refine gG ?_;refine Za ?_;refine aU x23.1 ?_;refine ze rfl (zc (nU (b:=x23.2) (k:=q) om om) rfl (fun x105=>?_));rw[if_neg (show ¬q<x23.2.l.length by omega)];refine gG ?_;refine Zb ?_;refine ze rfl (zc (BM (v:=(af.mk (kn:Int) (vn:Int) (rn:Int) (sn:Int) v.hash ⟨x67.a,x67.c,v.batch⟩ ⟨a,c,ls⟩))) rfl (fun x110=>gG ?_));refine yC ?_ ?_<;>intro h108 p108
 ·exact absurd h108 (by rw[hfu];simp)
 refine gG ?_;refine aag ?_;refine sI (fun w hw=>St.M8 (fp:=fp) (v:=(af.mk (kn:Int) (vn:Int) (rn:Int) (sn:Int) v.hash ⟨x67.a,x67.c,v.batch⟩ ⟨a,c,ls⟩)) (H:=aF b2 (.cells ((af.mk (kn:Int) (vn:Int) (rn:Int) (sn:Int) v.hash ⟨x67.a,x67.c,v.batch⟩ ⟨a,c,ls⟩)).cells 57 (0,0))::H) (SB w hw)) (fun fp2=>?_);exact zX ((af.mk (kn:Int) (vn:Int) (rn:Int) (sn:Int) v.hash ⟨x67.a,x67.c,v.batch⟩ ⟨a,c,ls⟩),fp2) [_,_] results73 ⟨⟨_,rfl,ak rfl⟩,rfl,trivial⟩ rfl (aP (by simp only[af.abs,hls,←h1k,←h2k,←h3k,←h4k]) SB)
end Go.Proofs.YtmbfimckmfnnjaaGreatDoor
