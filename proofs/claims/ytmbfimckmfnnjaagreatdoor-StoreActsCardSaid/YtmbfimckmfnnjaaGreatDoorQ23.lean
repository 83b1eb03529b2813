/- Steps of the proof of a law. -/
import Derived.Test.YtmbfimckmfnnjaaGreatDoorQ19
import Derived.Test.YtmbfimckmfnnjaaGreatDoorQ22
import Derived.Shelf.SlSortCmp.WholeK
import Derived.Test.YtmbfimckmfnnjaaGreatDoorProg
set_option maxRecDepth 100000
set_option maxHeartbeats 1000000
set_option linter.unusedSimpArgs false
set_option linter.unusedVariables false
namespace Go.Proofs.YtmbfimckmfnnjaaGreatDoor
open Go.RowKit Go.Sx Go.Proofs.Tryz
section
variable {l r rest:List UInt8} {n:Nat}
theorem K2{w0:World}{H:List SA}{p k:Nat}{b:BS}:CT prog w0 (aF p (.cells (bf.mk b (k:Int)).cells 192 (0,0))::H) 214 [.pointer (some ⟨p,0,none⟩)] (α:=Unit) (fun _=> .int .i64 (k:Int)) (fun _=>aF p (.cells (bf.mk b (k:Int)).cells 192 (0,0))::H):=by
 refine al func214 rfl ntmps214 rfl (gG ?_);refine Zw ?_;refine Zb ?_;exact zX () [_] results214 ⟨rfl,trivial⟩ rfl SB
theorem Fe{w0:World}{H:List SA}{a a2:Option Addr}{m:List UInt8}{c c2:Nat}[hr:dT w0 H (.slice a l.length c) l][hr2:dT w0 H (.slice a2 m.length c2) m](hl:l.length<=4294967296):CT prog w0 (H) 61 [.slice a l.length c,.slice a2 m.length c2] (α:=Unit) (fun _=> .bool (decide (l=m))) (fun _=>H):=by
 refine al func61 rfl ntmps61 rfl (gG ?_);refine yC ?_ ?_<;>intro h10 p10
 ·refine gG ?_;exact zX () [_] results61 ⟨rfl,trivial⟩ (congrArg Value.bool ag0) SB
 have hlm:l.length=m.length:=om;refine gG ?_;refine bH [4,5,13,14,15,16,17,18,19,20,21,22,23,24,25] [13] (fun us H'=>∃(k:Nat),us=[.int .i64 (k:Int)]/\H=H'/\k<=l.length/\(l.take k=m.take k)) (fun us=>match us with| .int _ i::_=>l.length-i.toNat|_=>0) ⟨0,rfl,rfl,om,sm⟩ SB ?_;rintro τ0 _ _ ⟨k,rfl,rfl,hk0,hq⟩ _;refine gG ?_;refine yC ?_ ?_<;>intro h14 p14
 ·have hk:k<l.length:=om;have hkm:k<m.length:=om;refine gG ?_;refine dv [(0,true),(1,true),(2,true),(3,true),(4,true),(5,true),(6,true),(7,true),(8,true)] (fun hns0=>?_);refine zd hns0 rfl (zm (.slice _ _ _) rfl) rfl (zd hns0 rfl (zm (.int .i64 _) rfl) rfl (zd hns0 rfl (bj rfl rfl om so) rfl (zd hns0 rfl (bC (.int .u8 (l[k].toNat:Int)) rfl (eO _ _ hk)) rfl (zd hns0 rfl (zm (.slice _ _ _) rfl) rfl (zd hns0 rfl (zm (.int .i64 _) rfl) rfl (zd hns0 rfl (bj rfl rfl om so) rfl (zd hns0 rfl (bC (.int .u8 ((m[k]'hkm).toNat:Int)) rfl (eO _ _ hkm)) rfl ?_)))))));refine gA ?_;refine yC ?_ ?_<;>intro h24 p24
  ·refine gG ?_;refine Zd ?_;exact zX () [_] results61 ⟨rfl,trivial⟩ (congrArg Value.bool (by rw[decide_eq_false (by intro h;subst h;exact p24 rfl)])) SB
  have he:l[k]=m[k]'hkm:=YN.1 om;have hq2:l.take (k+1)=m.take (k+1):=by rw[YA,YA,hq,WW hk,WW hkm,he]
  refine gA ?_;exact xl ⟨k+1,rfl,rfl,om,hq2⟩
 have hkn:k=l.length:=om;refine gG ?_;refine Za ?_;have hlm2:l=m:=by rw[hkn,XE,hlm,XE]at hq;exact hq
 exact zX () [_] results61 ⟨rfl,trivial⟩ (congrArg Value.bool (by rw[decide_eq_true hlm2])) SB
attribute [local irreducible] fH
def jS(n:Nat)(r:List UInt8):List UInt8:=packed n++packed r.length++r
theorem oW(n:Nat)(r:List UInt8):cv n r=jS n r++(fH (jS n r)).toList.take 8:=rfl
theorem FF(n:Nat)(r:List UInt8):(cv n r).length=(jS n r).length+8:=by
 rw[oW,WX,Xj,XW];rfl
theorem Ck(n:Nat)(r:List UInt8):(jS n r).length=0+(packed n).length+(packed r.length++r).length:=by
 unfold jS;simp only[WX];omega
theorem IK(hn:n<18446744073709551616)(h:l=cv n r++rest):aq (l.drop 0)=(0,n,(packed n).length):=by
 rw[XI,h,oW,jS];simp only[W4];exact jX n _ hn
theorem JT(hr:r.length<=65536)(h:l=cv n r++rest):au (l.drop (0+(packed n).length)) 65536=(0,r,(packed r.length++r).length):=by
 have e:l.drop (0+(packed n).length)=packed r.length++r++((fH (jS n r)).toList.take 8++rest):=by
   have e2:jS n r++(fH (jS n r)).toList.take 8++rest=packed n++(packed r.length++r++((fH (jS n r)).toList.take 8++rest)):=by
     conv=>lhs;rw[show jS n r=packed n++packed r.length++r from rfl]
     simp only[W4];rw[show jS n r=packed n++(packed r.length++r)from by unfold jS;rw[W4]]
   rw[XQ,h,oW,e2,YQ]
 rw[e];exact tA r 65536 _ om om
theorem NL(h:l=cv n r++rest):l.take (jS n r).length=jS n r:=by
 rw[h,oW,W4,Y5]
theorem Lz(h:l=cv n r++rest):(l.drop (jS n r).length).take 8=(fH (jS n r)).toList.take 8:=by
 rw[h,oW,W4,YQ];have:((fH (jS n r)).toList.take 8).length=8:=sm;rw[List.take_append,this,W7 (by rw[this];exact W8 _)];simp
attribute [local irreducible] jS cv
end
section
theorem St.rD{w0 w:World}{H:List SA}{fp:List Nat}{ls:List BS}(h:St w0 (ep fp ls::H) w):St w0 (dX fp ⟨ls,[],[]⟩::H) w:=
 h.Hq rfl fun hp=>⟨fun y hy=>hp y hy,fun _ h=>acX,fun _ h=>acX,fun _ h=>acX⟩
attribute [local irreducible] bL cv
end
section
attribute [local irreducible] fH
def fl(l:List UInt8):Option (Nat×List UInt8×Nat):=
 if (aq l).1≠0 then none
 else if (au (l.drop (aq l).2.2) 65536).1≠0 then none
 else if l.length<(aq l).2.2+(au (l.drop (aq l).2.2) 65536).2.2+8 then none
 else if (fH (l.take ((aq l).2.2+(au (l.drop (aq l).2.2) 65536).2.2))).toList.take 8≠(l.drop ((aq l).2.2+(au (l.drop (aq l).2.2) 65536).2.2)).take 8 then none
 else some ((aq l).2.1,(au (l.drop (aq l).2.2) 65536).2.1,(aq l).2.2+(au (l.drop (aq l).2.2) 65536).2.2+8)
variable {l:List UInt8} {m:Int}
theorem FN(l rest:List UInt8):∀f i x,(pk l f i x).1=0->pk (l++rest) f i x=pk l f i x
 |0,_,_,h=>by cases h
 |f+1,i,x,h=>by
   unfold pk at h ⊢;cases hl:l[i]? with
   |none=>rw[hl]at h;cases h
   |some c=>
     have hi:i<l.length:=by
       rcases X7 i l.length with h1|h1
       · exact h1
       · rw[XT h1]at hl;cases hl
     have e:(l++rest)[i]? =some c:=by rw[List.getElem?_append_left hi];exact hl
     rw[hl]at h;simp only[e];simp only at h
     split
     · rfl
     · rename_i h1
       rw[if_neg h1]at h
       split
       · rfl
       · rename_i h2
         rw[if_neg h2]at h;exact FN l rest f (i+1) _ h
theorem qz(rest:List UInt8)(h:(aq l).1=0):aq (l++rest)=aq l:=FN l rest 10 0 0 h
theorem A0(h:(ay l m).1=0):(aq l).1=0/\ay l m=aq l:=by
 unfold ay at h ⊢
 split at h
 · rename_i h1;exact absurd h h1
 · rename_i h1
   split at h
   · cases h
   · rename_i h2
     rw[if_neg h1,if_neg h2];exact⟨Y2.1 h1,rfl⟩
theorem Ac(rest:List UInt8)(h:(ay l m).1=0):ay (l++rest) m=ay l m:=by
 have h1:=(A0 h).1;unfold ay;rw[qz rest h1]
theorem Di(h:(au l m).1=0):(ay l m).1=0/\(ay l m).2.2+(ay l m).2.1<=l.length/\au l m=(0,(l.drop (ay l m).2.2).take (ay l m).2.1,(ay l m).2.2+(ay l m).2.1):=by
 unfold au at h ⊢
 split at h
 · rename_i h1;exact absurd h h1
 · rename_i h1
   split at h
   · cases h
   · rename_i h2
     rw[if_neg h1,if_neg h2];exact⟨Y2.1 h1,om,rfl⟩
theorem B9(rest:List UInt8)(h:(au l m).1=0):au (l++rest) m=au l m:=by
 obtain⟨h1,h2,h3⟩:=Di h;rw[h3];unfold au;rw[Ac rest h1,if_neg om,if_neg (by rw[WX];omega),Yi om,X4 afB]
theorem Ed{n:Nat}(hn:n<18446744073709551616){r rest:List UInt8}(hr:r.length<=65536)(h:l=cv n r++rest):fl l=some (n,r,(cv n r).length):=by
 have h1:=IK hn h;rw[XI]at h1;have h2:=JT hr h;rw[XQ]at h2;have h3:=NL h;have h4:=Lz h;have h5:=Ck n r;have h6:=FF n r;have hl:l.length=(cv n r).length+rest.length:=by rw[h,WX]
 have e:(packed n).length+(packed r.length++r).length=(jS n r).length:=om;unfold fl;simp only[h1,h2,e];rw[if_neg dc,if_neg dc,if_neg om,h3,h4,if_neg (fun hx=>hx rfl),h6]
theorem DC{n:Nat}(hn:n<18446744073709551616){r:List UInt8}(hr:r.length<=65536){m:Nat}(hm:m<(cv n r).length):fl ((cv n r).take m)=none:=by
 have hsp:(cv n r).take m++(cv n r).drop m=cv n r:=XC m _;have hlen:((cv n r).take m).length=m:=ae5;generalize (cv n r).take m=p at hsp hlen ⊢;generalize (cv n r).drop m=q at hsp;have hw:p++q=cv n r++[]:=by rw[hsp,Xn]
 have h1:=IK hn hw;rw[XI]at h1;have h2:=JT hr hw;rw[XQ]at h2;have h5:=Ck n r;have h6:=FF n r;unfold fl;by_cases c1:(aq p).1≠0
 · rw[if_pos c1]
 · rw[if_neg c1]
   have c1:(aq p).1=0:=Y2.1 c1;have e1:=qz q c1;rw[h1]at e1;rw[←e1];by_cases c2:(au (p.drop (packed n).length) 65536).1≠0
   · rw[if_pos c2]
   · rw[if_neg c2]
     have c2:(au (p.drop (packed n).length) 65536).1=0:=Y2.1 c2;have hk:(packed n).length<=p.length:=by
       have:=(bT p).2.1;rw[←e1]at this;exact aeq
     have e2:=B9 q c2;rw[←Yi hk,h2]at e2;rw[←e2];show(if p.length<(packed n).length+(packed r.length++r).length+8 then none else _)=none;rw[if_pos om]
def kv:Nat->List UInt8->Bool->Nat->List (List UInt8)×Nat×Bool×Nat
 |0,_,bg,nx=>([],0,bg,nx)
 |f+1,l,bg,nx=>match fl l with
   |none=>([],0,bg,nx)
   |some (n,r,k)=>if (bg=true/\n≠nx)∨n=0∨n=18446744073709551615 then([],0,bg,nx)
     else(r::(kv f (l.drop k) true (n+1)).1,k+(kv f (l.drop k) true (n+1)).2.1,(kv f (l.drop k) true (n+1)).2.2)
attribute [local irreducible] fl cv jS
theorem wJ:∀(rs:List (List UInt8))(f n:Nat)(bg:Bool)(nx:Nat)(t:List UInt8),rs.length<f->1<=n->n+rs.length<18446744073709551615->(∀r∈rs,r.length<=65536)->(bg=true->nx=n)->fl t=none->
   kv f (bL n rs++t) bg nx=(rs,(bL n rs).length,if rs.length=0 then bg else true,if rs.length=0 then nx else n+rs.length)
 |[],f+1,n,bg,nx,t,_,_,_,_,_,ht=>by
   unfold kv;rw[show bL n []++t=t from rfl,ht];rfl
 |[],0,_,_,_,_,h,_,_,_,_,_=>by cases h
 |r::rs,0,_,_,_,_,h,_,_,_,_,_=>by cases h
 |r::rs,f+1,n,bg,nx,t,hf,hn,hn2,hr,hb,ht=>by
   have hl:(r::rs).length=rs.length+1:=rfl;have hr1:=hr r (XF ..);have h1:fl (bL n (r::rs)++t)=some (n,r,(cv n r).length):=Ed om hr1 (rest:=bL (n+1) rs++t) (by show(cv n r++bL (n+1) rs)++t=_;rw[W4]);have h2:(bL n (r::rs)++t).drop (cv n r).length=bL (n+1) rs++t:=by show((cv n r++bL (n+1) rs)++t).drop _=_;rw[W4,YQ]
   have ih:=wJ rs f (n+1) true (n+1) t om om om (fun x hx=>hr x (Xa _ hx)) (fun _=>rfl) ht;unfold kv;rw[h1];simp only;rw[if_neg (by rintro(⟨h,h'⟩|h|h);exact h' (hb h).symm;omega;omega),h2,ih];rw[if_neg (show ¬(r::rs).length=0 by simp),if_neg (show ¬(r::rs).length=0 by simp)];refine Prod.ext rfl (Prod.ext ?_ (Prod.ext ?_ ?_))
   · show _=(cv n r++bL (n+1) rs).length
     rw[WX]
   · show(if rs.length=0 then true else true)=true
     split<;>rfl
   · show(if rs.length=0 then n+1 else n+1+rs.length)=n+(rs.length+1)
     split<;>omega
end
section
open Go.RowKit Go.Sx
end
section
theorem xT:∀(l:List (List UInt8)),iz l<=(texts l).length
 |[]=>by simp[iz,texts]
 |x::l=>by
   have h:=xT l;have e1:iz (x::l)=x.length+iz l:=by simp[iz]
   have e2:texts (x::l)=aY x++texts l:=by simp[texts]
   rw[e1,e2,WX,aY,WX];omega
theorem KF(v:dm):v.batch.length+iz v.cert<=(told v).length:=by
 have h:=xT v.cert;simp only[told,head,aY,WX];omega
theorem ry(v:dm):cU v=if 16<v.cert.length then([],4)else if 65536<(told v).length then([],4)else if df v then(told v,0)else([],15):=by
 have h:=KF v;unfold cU
 split
 · rfl
 · split
   · rw[if_pos om]
   · rfl
theorem Jd(v:dm)(h:ff v)(hc:v.cert.length<=16)(k:Nat):(head v++texts (v.cert.take k)).length<=2000000:=by
 have h1:=ua v h.1 h.2.1;have h2:=jA 100000 (v.cert.take k) (fun x hx=>h.2.2 x (Yd hx)) dc;have h3:(v.cert.take k).length<=16:=so;have h4:=Xp (10+100000) h3;rw[WX];omega
theorem Ki{w0:World}{H:List SA}{v:af}[rbv:dT w0 H (.slice v.batch.a v.batch.l.length v.batch.c) v.batch.l][Cd:gy w0 H (.slice v.cert.a v.cert.ls.length v.cert.c) 1 (v.cert.ls.map BS.val)][rev:ju w0 H v.cert.ls](hs:ff v.abs)(hc16:v.cert.ls.length<=16):CT prog w0 (H) 155 [.agg v.cells] (α:=AC) (fun y=> .slice y.a (told v.abs).length y.c) (fun y=>row (.slice y.a (told v.abs).length y.c) 5 1 (aE (told v.abs))::H):=by
 refine al func155 rfl ntmps155 rfl (gG ?_);refine ze rfl (aZ rfl (fun b1=>?_));refine zq (za (.slice _ _ _) rfl) rfl (zz (zx (zS (zR (zq (za (.slice _ _ _) rfl) rfl (zz (zx ?_)))))));refine zS (zR ?_);have hb1:=hs.batch;refine gG ?_;refine aa4 ?_;refine ze rfl (zc (jR (iS v.kind).1 (iS v.kind).2) rfl (fun x9=>?_));refine ze rfl (bR (sv:= .slice _ _ _) (xv:= .slice _ _ _) rfl rfl (by simp[BO,aO]) rfl (fun a10 c10=>?_));rw[Xh,BO,show fixed (u64 v.kind).toNat 1=jH v.abs 0 from rfl];refine cu (row (.slice a10 (jH v.abs 0).length c10) 5 1 (aE (jH v.abs 0))::aF b1 (.cells v.cells 57 (0,0))::H) ?_;refine gG ?_;refine aa4 ?_;refine ze rfl (zc (jR (iS v.view).1 (iS v.view).2) rfl (fun x15=>?_));refine ze rfl (bR (sv:= .slice _ _ _) (xv:= .slice _ _ _) rfl rfl (by simp[mX,aO,eT]) rfl (fun a16 c16=>?_));rw[mX,show jH v.abs 0++fixed (u64 v.view).toNat 2=jH v.abs 1 from rfl];refine cu (row (.slice a16 (jH v.abs 1).length c16) 5 1 (aE (jH v.abs 1))::aF b1 (.cells v.cells 57 (0,0))::H) ?_;refine gG ?_;refine aa4 ?_;refine ze rfl (zc (jR (iS v.dZ).1 (iS v.dZ).2) rfl (fun x21=>?_));refine ze rfl (bR (sv:= .slice _ _ _) (xv:= .slice _ _ _) rfl rfl (by simp[mX,aO,eT]) rfl (fun a22 c22=>?_));rw[mX,show jH v.abs 1++fixed (u64 v.dZ).toNat 2=jH v.abs 2 from rfl];refine cu (row (.slice a22 (jH v.abs 2).length c22) 5 1 (aE (jH v.abs 2))::aF b1 (.cells v.cells 57 (0,0))::H) ?_;refine gG ?_;refine aa4 ?_;refine ze rfl (zc (jR (iS v.slot).1 (iS v.slot).2) rfl (fun x27=>?_))
 refine ze rfl (bR (sv:= .slice _ _ _) (xv:= .slice _ _ _) rfl rfl (by simp[mX,aO,eT]) rfl (fun a28 c28=>?_));rw[mX,show jH v.abs 2++fixed (u64 v.slot).toNat 2=jH v.abs 3 from rfl];refine cu (row (.slice a28 (jH v.abs 3).length c28) 5 1 (aE (jH v.abs 3))::aF b1 (.cells v.cells 57 (0,0))::H) ?_;refine gG ?_;refine ze rfl (zc (LA) rfl (fun x32=>?_));refine ze rfl (bR (sv:= .slice _ _ _) (xv:= .slice _ _ _) rfl rfl (by simp[eT]) rfl (fun a33 c33=>gG ?_));refine Zu ?_;refine ze rfl (zc (pT om) rfl (fun x37=>?_));refine ze rfl (bR (sv:= .slice _ _ _) (xv:= .slice _ _ _) rfl rfl (by have:=bA v.batch.l om;simp[eT];omega) rfl (fun a38 c38=>gG ?_));refine Zj ?_;refine acQ ?_;refine ze rfl (zc (lS (x:=(v.cert.ls.length:Int)) om om) rfl (fun x44=>?_));rw[show(v.cert.ls.length:Int).toNat=v.abs.cert.length from by simp[af.abs]];refine ze rfl (bR (sv:= .slice _ _ _) (xv:= .slice _ _ _) rfl rfl (by have h1:=bA v.batch.l om;have h2:=bw v.abs.cert.length afA;simp[eT];omega) rfl (fun a45 c45=>?_));rw[show jH v.abs 3++v.hash.toList++aY v.batch.l++packed v.abs.cert.length=head v.abs from rfl];refine gG ?_;have hcert:=fL v
 refine bH [3,4,46,47,48,49,50,51,52,53,54,55,56,57,58,59,60] [4,3] (fun us H'=>∃(k:Nat)(a:Option Addr)(c:Nat),us=[.int .i64 (k:Int),.slice a (head v.abs++texts (v.abs.cert.take k)).length c]/\H'=row (.slice a (head v.abs++texts (v.abs.cert.take k)).length c) 5 1 (aE (head v.abs++texts (v.abs.cert.take k)))::aF b1 (.cells v.cells 57 (0,0))::H/\k<=v.cert.ls.length) (fun us=>match us with| .int _ i::_=>v.cert.ls.length-i.toNat|_=>0) ⟨0,a45,c45,by rw[XD,show texts []=[]from rfl,Xn];rfl,by rw[XD,show texts []=[]from rfl,Xn],om⟩ SB ?_;rintro τ0 _ _ ⟨k,a1,c1,rfl,rfl,hk0⟩ _;refine gG ?_;refine Zj ?_;refine yC ?_ ?_<;>intro h50 p50
 ·have hk:k<v.cert.ls.length:=om;have hmem:v.cert.ls[k]∈v.cert.ls:=W1 hk;have rbk:dT w0 H (.slice v.cert.ls[k].a v.cert.ls[k].l.length v.cert.ls[k].c) v.cert.ls[k].l:=rev.get hmem;have hsnoc:texts (v.abs.cert.take (k+1))=texts (v.abs.cert.take k)++aY v.cert.ls[k].l:=by rw[fR _ _ (by rw[fL];exact hk),qM];simp[af.abs]
  refine gG ?_;refine Zj ?_;refine zq (bj rfl rfl om so) rfl (zq (bC (.slice _ _ _) rfl (fV _ _ hk)) rfl ?_);refine ze rfl (zc (pT aha) rfl (fun x59=>?_));refine ze rfl (bR (sv:= .slice _ _ _) (xv:= .slice _ _ _) rfl rfl (by have h1:=Jd v.abs hs (by rw[fL];exact hc16) k;have h2:=bA v.cert.ls[k].l aha;have h3:=hs.each _ hmem;omega) rfl (fun a60 c60=>?_));rw[show head v.abs++texts (v.abs.cert.take k)++aY v.cert.ls[k].l=head v.abs++texts (v.abs.cert.take (k+1))from by rw[hsnoc,W4]];refine gA ?_;refine bW _ zA (⟨k+1,a60,c60,rfl,rfl,om⟩) acr (SB)
 have et:v.abs.cert.take k=v.abs.cert:=W7 afA;simp only[et];rw[show head v.abs++texts v.abs.cert=told v.abs from rfl];refine gG ?_;refine Za ?_;exact zX ⟨a1,c1⟩ [_] results155 ⟨rfl,trivial⟩ rfl SB
theorem JG{w0:World}{H:List SA}{v:af}[rbv:dT w0 H (.slice v.batch.a v.batch.l.length v.batch.c) v.batch.l][Cd:gy w0 H (.slice v.cert.a v.cert.ls.length v.cert.c) 1 (v.cert.ls.map BS.val)][rev:ju w0 H v.cert.ls](hs:ff v.abs):CT prog w0 (H) 87 [.agg v.cells] (α:=AC) (fun y=> .tuple #[.slice y.a (cU v.abs).1.length y.c,.int .i64 (cU v.abs).2]) (fun y=>row (.slice y.a (cU v.abs).1.length y.c) 5 1 (aE (cU v.abs).1)::H):=by
 refine al func87 rfl ntmps87 rfl (gG ?_);refine ze rfl (aZ rfl (fun b1=>gG ?_));refine Zj ?_;refine yC ?_ ?_<;>intro h8 p8
 ·refine gG ?_;have e:cU v.abs=([],4):=by rw[ry];rw[if_pos afA]
  simp only[e];exact acK
 have p8b:¬16<v.abs.cert.length:=afA;refine gG ?_;refine ze rfl (zc (Ki hs om) rfl (fun x10=>gG ?_));refine yC ?_ ?_<;>intro h13 p13
 ·refine gG ?_;have e:cU v.abs=([],4):=by rw[ry];rw[if_neg p8b,if_pos om]
  simp only[e];exact acK
 have p13b:¬65536<(told v.abs).length:=om;refine gG ?_;refine ze rfl (zc (MF) rfl (fun x15=>gG ?_));refine yC ?_ ?_<;>intro h16 p16<;>refine gG ?_
 ·have e:cU v.abs=([],15):=by rw[ry];rw[if_neg p8b,if_neg p13b,if_neg (by simpa using h16)]
  simp only[e];exact acK
 have e:cU v.abs=(told v.abs,0):=by rw[ry];rw[if_neg p8b,if_neg p13b,if_pos (by simpa using h16)]
 simp only[e];exact zX ⟨x10.a,x10.c⟩ [_,_] results87 ⟨rfl,rfl,trivial⟩ rfl SB
end
section
theorem take_nil{w0:World}{H:List SA}{v:af}:CT prog w0 (H) 74 [.pointer none,.agg v.cells] (α:=Unit) (fun _=> .int .i64 16) (fun _=>H):=by
 refine ais ?_;refine ze rfl (aZ rfl (fun b3=>gG ?_));refine Zt ?_;refine yC ?_ ?_<;>intro h12 p12
 ·refine gG ?_;exact zX () [_] results74 ⟨rfl,trivial⟩ rfl SB
 cases h12
instance jF.nil{w0:World}{H:List SA}:jF w0 H []:=⟨fun _ h=>by simp at h,fun _ h=>by simp at h,fun _ h=>by simp at h⟩
end
section
theorem zK{v:dm}(h:il v=false):ff v:=by
 simp only[il,Bool.or_eq_false_iff,decide_eq_false_iff_not,List.any_eq_false,decide_eq_true_eq]at h;exact⟨om,om,fun c hc=>by have:=h.2 c hc;omega⟩
theorem qv{l:List dm}(h:mq l=false):∀v∈l,ff v:=fun v hv=>by
 simp only[mq,Bool.or_eq_false_iff,List.any_eq_false,W9]at h;exact zK (h.2 v hv)
end
section
theorem iT{v:dm}(h:(cU v).2=0):df v=true:=by
 unfold cU at h
 split at h
 · simp at h
 · split at h
   · simp at h
   · split at h
     · simp at h
     · split at h
       · rename_i hf;exact hf
       · simp at h
theorem Hj(b:fG)(a:bG)(v:dm):(kZ b a v).now=b.now/\(kZ b a v).cO=b.cO/\(kZ b a v).slot=b.slot/\(kZ b a v).acc=b.acc:=by
 unfold kZ;split<;>exact⟨rfl,rfl,rfl,rfl⟩
theorem En(b:fG)(a:bG)(v:dm):(ik b a v).now=b.now/\(ik b a v).cO=b.cO/\(ik b a v).slot=b.slot:=by
 unfold ik;split
 · exact⟨rfl,rfl,rfl⟩
 · split<;>exact⟨rfl,rfl,rfl⟩
theorem vT(b:fG)(s:Int)(h:¬s<b.slot):(iv b s).slot=s:=by
 unfold iv;split
 · rfl
 · show b.slot=s;omega
theorem Db(b:fG)(v:dm):(eX b v=(b,15)/\(cU v).2≠0)∨(eX b v=(A8 b ⟨v.view,v.dZ⟩,0)/\(cU v).2=0/\v.kind=1)∨(eX b v=(b,7)/\(cU v).2=0/\v.kind≠1/\v.slot<b.slot)∨
   (eX b v=(kZ (iv b v.slot) ⟨v.view,v.dZ⟩ v,0)/\(cU v).2=0/\v.kind=2/\¬v.slot<b.slot)∨(eX b v=(ik (iv b v.slot) ⟨v.view,v.dZ⟩ v,0)/\(cU v).2=0/\v.kind≠1/\v.kind≠2/\¬v.slot<b.slot):=by
 by_cases h:(cU v).2=0
 · by_cases h1:v.kind=1
   · exact .inr (.inl ⟨y9 h h1,h,h1⟩)
   · by_cases h2:v.slot<b.slot
     · exact .inr (.inr (.inl ⟨yI h h1 h2,h,h1,h2⟩))
     · by_cases h3:v.kind=2
       · exact .inr (.inr (.inr (.inl ⟨pJ h h3 h2,h,h3,h2⟩)))
       · exact .inr (.inr (.inr (.inr ⟨pU h h1 h3 h2,h,h1,h3,h2⟩)))
 · exact .inl ⟨zy h,h⟩
theorem kl{w0:World}{H:List SA}{σ:Env}{d:Option Nat}{ty:TypeId}{pos:String}{aft:Array Edge}{g:Option (Nat×Bool)}{x:Operand}{n c k:Nat}{a:Option Addr}{vs:List af}(hx:ev σ x= .pointer (ko (.slice a n c) (k*38)))[hr:gy w0 H (.slice a n c) 38 (vs.flatMap af.list)](hk:k<vs.length):Qt prog w0 H σ ⟨d,.load 57 x,ty,pos,aft,g⟩ (.agg vs[k].cells):=ek 38 vs[k].list hx (de _ 38 af.ae vs k hk) (af.ae _) dc
end
section
open Go.Shelf
def Cr:Go.Shelf.Ren:=⟨fun|6=>240|15=>125|14=>268|28=>212|29=>213|20=>287|21=>288|22=>289|23=>290|24=>291|25=>292|26=>293|27=>294|46=>305|47=>255|48=>256|49=>306|50=>307|57=>311|n=>n,fun|22=>277|24=>128|25=>282|3=>3|39=>224|0=>0|53=>275|55=>58|4=>4|46=>306|45=>305|50=>311|5=>5|9=>9|66=>345|70=>196|76=>371|77=>181|n=>n,fun|n=>n⟩
theorem Ls:Go.Proofs.SlLaysF0.n6 prog Cr where
 mixed:=by kernel_rfl
 f6:=⟨Tryz.f240.name,by decide,Tryz.func240.trans (congrArg some (by kernel_rfl))⟩
 f14:=⟨Tryz.f268.name,by decide,Tryz.func268.trans (congrArg some (by kernel_rfl))⟩
 f15:=Tryz.func125.trans (congrArg some (by kernel_rfl))
 f20:=⟨Tryz.f287.name,by decide,Tryz.func287.trans (congrArg some (by kernel_rfl))⟩
 f21:=⟨Tryz.f288.name,by decide,Tryz.func288.trans (congrArg some (by kernel_rfl))⟩
 f22:=⟨Tryz.f289.name,by decide,Tryz.func289.trans (congrArg some (by kernel_rfl))⟩
 f23:=⟨Tryz.f290.name,by decide,Tryz.func290.trans (congrArg some (by kernel_rfl))⟩
 f24:=⟨Tryz.f291.name,by decide,Tryz.func291.trans (congrArg some (by kernel_rfl))⟩
 f25:=⟨Tryz.f292.name,by decide,Tryz.func292.trans (congrArg some (by kernel_rfl))⟩
 f26:=⟨Tryz.f293.name,by decide,Tryz.func293.trans (congrArg some (by kernel_rfl))⟩
 f27:=⟨Tryz.f294.name,by decide,Tryz.func294.trans (congrArg some (by kernel_rfl))⟩
 f28:=Tryz.func212.trans (congrArg some (by kernel_rfl))
 f29:=Tryz.func213.trans (congrArg some (by kernel_rfl))
 f46:=⟨Tryz.f305.name,by decide,Tryz.func305.trans (congrArg some (by kernel_rfl))⟩
 f47:=Tryz.func255.trans (congrArg some (by kernel_rfl))
 f48:=Tryz.func256.trans (congrArg some (by kernel_rfl))
 f49:=⟨Tryz.f306.name,by decide,Tryz.func306.trans (congrArg some (by kernel_rfl))⟩
 f50:=⟨Tryz.f307.name,by decide,Tryz.func307.trans (congrArg some (by kernel_rfl))⟩
 f57:=⟨Tryz.f311.name,by decide,Tryz.func311.trans (congrArg some (by kernel_rfl))⟩
 t0:=underlying0
 a0:=Tryz.isAgg0
 z0:=Tryz.sizeOf0
 v0:=Tryz.zeroValue0
 t3:=underlying3
 a3:=Tryz.isAgg3
 z3:=Tryz.sizeOf3
 v3:=Tryz.zeroValue3
 t4:=underlying4
 a4:=Tryz.isAgg4
 z4:=Tryz.sizeOf4
 v4:=Tryz.zeroValue4
 t5:=underlying5
 a5:=Tryz.isAgg5
 z5:=Tryz.sizeOf5
 v5:=Tryz.zeroValue5
 t9:=underlying9
 a9:=Tryz.isAgg9
 z9:=Tryz.sizeOf9
 v9:=Tryz.zeroValue9
 t22:=underlying277
 a22:=Tryz.isAgg277
 z22:=Tryz.sizeOf277
 v22:=Tryz.zeroValue277
 t25:=underlying282
 a25:=Tryz.isAgg282
 z25:=Tryz.sizeOf282
 v25:=Tryz.zeroValue282
 t39:=underlying224
 a39:=Tryz.isAgg224
 z39:=Tryz.sizeOf224
 v39:=Tryz.zeroValue224
 t45:=underlying305
 a45:=Tryz.isAgg305
 z45:=Tryz.sizeOf305
 v45:=Tryz.zeroValue305
 t46:=underlying306
 a46:=Tryz.isAgg306
 z46:=Tryz.sizeOf306
 v46:=Tryz.zeroValue306
 t50:=underlying311
 a50:=Tryz.isAgg311
 z50:=Tryz.sizeOf311
 v50:=Tryz.zeroValue311
 t53:=underlying275
 a53:=Tryz.isAgg275
 z53:=Tryz.sizeOf275
 v53:=Tryz.zeroValue275
 t55:=underlying58
 a55:=Tryz.isAgg58
 z55:=Tryz.sizeOf58
 v55:=Tryz.zeroValue58
 t66:=underlying345
 a66:=Tryz.isAgg345
 z66:=Tryz.sizeOf345
 v66:=Tryz.zeroValue345
 t70:=underlying196
 a70:=Tryz.isAgg196
 z70:=Tryz.sizeOf196
 v70:=Tryz.zeroValue196
 t76:=underlying371
 a76:=Tryz.isAgg371
 z76:=Tryz.sizeOf371
 v76:=Tryz.zeroValue371
 t77:=underlying181
 a77:=Tryz.isAgg181
 z77:=Tryz.sizeOf181
 v77:=Tryz.zeroValue181
end
end Go.Proofs.YtmbfimckmfnnjaaGreatDoor
