/- Steps of the proof of a law. -/
import Derived.Test.YtmbfimckmfnnjaaGreatDoorQ05
set_option maxRecDepth 100000
set_option maxHeartbeats 1000000
set_option linter.unusedSimpArgs false
set_option linter.unusedVariables false
namespace Go.Proofs.YtmbfimckmfnnjaaGreatDoor
open Go.RowKit Go.Sx Go.Proofs.Tryz
def aY(l:List UInt8):List UInt8:=packed l.length++l
def u64(k:Int):Int:=IntKind.u64.wrap k
variable {w0:World} {H:List SA} {α:Type} {k c2:Nat} {a2:Option Addr}
theorem iS(k:Int):0<=u64 k/\u64 k<18446744073709551616:=by
 simp[u64,IntKind.wrap,IntKind.bits,IntKind.signed];omega
def texts(l:List (List UInt8)):List UInt8:=(l.map aY).flatten
theorem qM(l:List (List UInt8))(x:List UInt8):texts (l++[x])=texts l++aY x:=by simp[texts]
theorem bA(l:List UInt8)(h:l.length<18446744073709551616):(aY l).length<=10+l.length:=by
 have:=bw l.length h;simp[aY];omega
theorem jA(n:Nat):∀l:List (List UInt8),(∀x∈l,x.length<=n)->n<=2147483647->(texts l).length<=l.length*(10+n)
 |[],_,_=>by simp[texts]
 |x::l,h,hn=>by
   have h1:=jA n l (fun y hy=>h y (by simp[hy])) hn;have h2:=h x sm;have h3:=bA x om;simp only[texts,Xt,List.flatten_cons,WX,Xq]at h1 ⊢;rw[XY,Nat.one_mul];omega
def iz(l:List (List UInt8)):Nat:=(l.map List.length).sum
theorem uT(x:List UInt8)(l:List (List UInt8)):texts (x::l)=aY x++texts l:=by simp[texts]
theorem fR(l:List α)(k:Nat)(h:k<l.length):l.take (k+1)=l.take k++[l[k]]:=Xf h
theorem F9(a b:UInt8):((a.toNat:Int)=(b.toNat:Int))↔a=b:=by
 rw[←YN];omega
theorem Cg(l:List (List UInt8))(k:Nat)(hk:k<l.length):iz (l.take (k+1))=iz (l.take k)+l[k].length:=by
 rw[fR _ _ hk];simp only[iz,Xi,Xt,X6,List.sum_append,List.sum_cons,List.sum_nil];omega
theorem xI(n:Nat):∀l:List (List UInt8),(∀x∈l,x.length<=n)->iz l<=l.length*n
 |[],_=>by simp[iz]
 |x::l,h=>by
   have h1:=xI n l (fun y hy=>h y (by simp[hy]));have h2:=h x sm;simp only[iz,Xt,List.sum_cons,Xq]at h1 ⊢;rw[XY,Nat.one_mul];omega
theorem xP:∀(l:List (List UInt8))(x:List UInt8),x∈l->x.length<=iz l
 |y::l,x,h=>by
   simp only[iz,Xt,List.sum_cons];rcases Xg.1 h with rfl|h
   · omega
   · have:=xP l x h;simp only[iz]at this;omega
theorem take_eq_all{l l2:List α}(h:l.take k=l2.take k)(hk:k=l.length)(hl:l.length=l2.length):l=l2:=by
 subst hk;rw[XE,hl,XE]at h;exact h
theorem rU{l l2:List α}(h:l.take k=l2.take k)(h1:k<l.length)(h2:k<l2.length)(he:l[k]=l2[k]):l.take (k+1)=l2.take (k+1):=by
 rw[fR _ _ h1,fR _ _ h2,h,he]
theorem xD{l l2:List α}(h1:k<l.length)(h2:k<l2.length)(he:l[k]≠l2[k]):l≠l2:=by
 rintro rfl;exact he rfl
theorem iP(p:α->Bool)(l:List α)(k:Nat)(hk:k<l.length)(h:(l.take k).any p=false)(he:p l[k]=false):(l.take (k+1)).any p=false:=by
 rw[fR _ _ hk,List.any_append,h];simp[he]
theorem w7(p:α->Bool)(l:List α)(k:Nat)(hk:k<l.length)(he:p l[k]=true):l.any p=true:=List.any_eq_true.2 ⟨l[k],W1 hk,he⟩
theorem s3{l:List Value}{j:Nat}{u:Value}(h:aw l.toArray j u):l[j]? =some u:=by simpa using h.ok
theorem Dr{a:Option Addr}{l l2:List UInt8}{c:Nat}[hr:dT w0 H (.slice a l.length c) l][hr2:dT w0 H (.slice a2 l2.length c2) l2](hl:l.length<=4294967296):CT prog w0 (H) 94 [.slice a l.length c,.slice a2 l2.length c2] (α:=Unit) (fun _=> .bool (decide (l=l2))) (fun _=>H):=by
 refine al func94 rfl ntmps94 rfl (gG ?_);refine yC ?_ ?_<;>intro h10 p10<;>refine gG ?_
 ·have he:¬l=l2:=fun h=>p10 (by rw[h]);exact zX () [.bool (decide (l=l2))] results94 ⟨by simp only[he,decide_false];rfl,trivial⟩ rfl SB
 have hll:l.length=l2.length:=om;refine bH [4,5,11,12,13,14,15,16,17,18,19,20,21,22,23,24,25] [5] (fun vs H'=>∃k:Nat,vs=[.int .i64 (k:Int)]/\H=H'/\k<=l.length/\l.take k=l2.take k) (fun vs=>match vs with| .int _ i::_=>l.length-i.toNat|_=>0) ⟨0,rfl,rfl,om,rfl⟩ SB ?_;rintro τ0 _ _ ⟨k,rfl,rfl,hk0,hpre⟩ _;refine gG ?_;refine yC ?_ ?_<;>intro h14 p14
 ·have hk:k<l.length:=om;have hk2:k<l2.length:=om;refine gG ?_;refine dv [(0,true),(1,true),(2,true),(3,true),(4,true),(5,true),(6,true),(7,true),(8,true)] (fun hns0=>?_);refine zd hns0 rfl (zm (.slice _ _ _) rfl) rfl (zd hns0 rfl (zm (.int .i64 _) rfl) rfl (zd hns0 rfl (bj rfl rfl om so) rfl (zd hns0 rfl (bC (.int .u8 (l[k].toNat:Int)) rfl (eO _ _ hk)) rfl (zd hns0 rfl (zm (.slice _ _ _) rfl) rfl (zd hns0 rfl (zm (.int .i64 _) rfl) rfl (zd hns0 rfl (bj rfl rfl om so) rfl (zd hns0 rfl (bC (.int .u8 (l2[k].toNat:Int)) rfl (eO _ _ hk2)) rfl ?_)))))));refine gA ?_;refine yC ?_ ?_<;>intro h25 p25
  ·have hne:l[k]≠l2[k]:=fun h=>p25 (by rw[h]);have he:=xD hk hk2 hne;refine gG ?_;refine Zd ?_;exact ad6
  have heq:l[k]=l2[k]:=(F9 _ _).1 p25;refine gA ?_;refine bW _ zA (⟨k+1,rfl,rfl,om,rU hpre hk hk2 heq⟩) agF (SB)
 have he:=take_eq_all hpre om hll;refine gG ?_;refine Za ?_;exact ad6
theorem ud{a:Option Addr}{l l2:List BS}{c:Nat}[hr:gy w0 H (.slice a l.length c) 1 (l.map BS.val)][re:ju w0 H l][hr2:gy w0 H (.slice a2 l2.length c2) 1 (l2.map BS.val)][re2:ju w0 H l2](hl:l.length<=4294967296)(he1:∀x∈l,x.l.length<=4294967296):CT prog w0 (H) 95 [.slice a l.length c,.slice a2 l2.length c2] (α:=Unit) (fun _=> .bool (decide (l.map BS.l=l2.map BS.l))) (fun _=>H):=by
 refine al func95 rfl ntmps95 rfl (gG ?_);refine yC ?_ ?_<;>intro h10 p10<;>refine gG ?_
 ·have he:¬l.map BS.l=l2.map BS.l:=fun h=>p10 (by have:=congrArg List.length h;simp at this;omega);exact zX () [.bool (decide (l.map BS.l=l2.map BS.l))] results95 ⟨by simp only[he,decide_false];rfl,trivial⟩ rfl SB
 have hll:(l.map BS.l).length=(l2.map BS.l).length:=so;refine bH [4,5,11,12,13,14,15,16,17,18,19,20,21,22,23,24,25,26] [5] (fun vs H'=>∃k:Nat,vs=[.int .i64 (k:Int)]/\H=H'/\k<=l.length/\(l.map BS.l).take k=(l2.map BS.l).take k) (fun vs=>match vs with| .int _ i::_=>l.length-i.toNat|_=>0) ⟨0,rfl,rfl,om,rfl⟩ SB ?_;rintro τ0 _ _ ⟨k,rfl,rfl,hk0,hpre⟩ _;refine gG ?_;refine yC ?_ ?_<;>intro h14 p14
 ·have hk:k<l.length:=om;have hk2:k<l2.length:=by simp at hll;omega
  have:dT w0 H (.slice l[k].a l[k].l.length l[k].c) l[k].l:=re.get (W1 hk);have:dT w0 H (.slice l2[k].a l2[k].l.length l2[k].c) l2[k].l:=re2.get (W1 hk2);refine gG ?_;refine dv [(0,true),(1,true),(2,true),(3,true),(4,true),(5,true),(6,true),(7,true),(8,false),(9,true)] (fun hns0=>?_);refine zd hns0 rfl (zm (.slice _ _ _) rfl) rfl (zd hns0 rfl (zm (.int .i64 _) rfl) rfl (zd hns0 rfl (bj rfl rfl om so) rfl (zd hns0 rfl (bC (.slice _ _ _) rfl (fV _ _ hk)) rfl (zd hns0 rfl (zm (.slice _ _ _) rfl) rfl (zd hns0 rfl (zm (.int .i64 _) rfl) rfl (zd hns0 rfl (bj rfl rfl om so) rfl (zd hns0 rfl (bC (.slice _ _ _) rfl (fV _ _ hk2)) rfl ?_)))))));refine cX rfl rfl (zc (Dr (he1 _ (W1 hk))) rfl (fun x25=>⟨SB,(gA ?_)⟩));refine yC ?_ ?_<;>intro h26 p26
  ·have hne:l[k].l≠l2[k].l:=by simpa using p26
   have he:=xD (l:=l.map BS.l) (l2:=l2.map BS.l) (k:=k) abf (by simpa using hk2) (by simpa using hne);refine gG ?_;refine Zd ?_;exact adO
  have heq:l[k].l=l2[k].l:=by simpa using p26
  refine gA ?_;refine bW _ zA (⟨k+1,rfl,rfl,om,rU hpre abf (by simpa using hk2) (by simpa using heq)⟩) agF (SB)
 have he:=take_eq_all hpre so hll;refine gG ?_;refine Za ?_;exact adO
theorem rh(x k:Nat)(hk:k≠0)(h:x<18446744073709551616):IntKind.u64.wrap ((x:Int).tdiv (k:Int))=((x/k:Nat):Int):=by
 have e:(x:Int).tdiv (k:Int)=((x/k:Nat):Int):=by rw[Int.ofNat_tdiv]
 have:=YT x k;rw[e];generalize x/k=q at*;exact wrap_u64 om om
theorem mD(x k:Nat):(x:Int).tmod (k:Int)=((x%k:Nat):Int):=by rw[Int.ofNat_tmod]
theorem I8(x:Nat):mm (IntKind.u8.wrap ((x:Int).tmod 256))=UInt8.ofNat (x%256):=by
 rw[show(256:Int)=((256:Nat):Int)from rfl,mD,kW]
theorem B3(x:Nat):mm (IntKind.u8.wrap (IntKind.u64.wrap ((x:Int).tmod 128+128)))=UInt8.ofNat (x%128+128):=by
 rw[show(128:Int)=((128:Nat):Int)from rfl,mD,wrap_u64 om om,←Int.natCast_add,kW]
def j4(x n:Int):List UInt8:=if fQ n then fixed x.toNat n.toNat else[]
theorem BO(x:Int):j4 x 1=fixed x.toNat 1:=rfl
theorem mX(x:Int):j4 x 2=fixed x.toNat 2:=rfl
theorem FP{n:Int}:CT prog w0 (H) 234 [.int .i64 n] (α:=Unit) (fun _=> .bool (fQ n)) (fun _=>H):=by
 refine al func234 rfl ntmps234 rfl (gG ?_);refine yS 5 ?_ ?_<;>intro h5 p5<;>refine gG ?_
 ·exact zX () [.bool (fQ n)] results234 ⟨by refine congrArg Value.bool ?_;simp_all [fQ],trivial⟩ rfl SB
 refine yS 9 ?_ ?_<;>intro h9 p9<;>refine gG ?_
 ·exact zX () [.bool (fQ n)] results234 ⟨by refine congrArg Value.bool ?_;simp_all [fQ],trivial⟩ rfl SB
 refine yS 13 ?_ ?_<;>intro h13 p13<;>refine gG ?_
 ·exact zX () [.bool (fQ n)] results234 ⟨by refine congrArg Value.bool ?_;simp_all [fQ],trivial⟩ rfl SB
 exact zX () [.bool (fQ n)] results234 ⟨by refine congrArg Value.bool ?_;simp_all [fQ],trivial⟩ rfl SB
theorem jR{x n:Int}(hx:0<=x)(hx2:x<18446744073709551616):CT prog w0 (H) 168 [.int .u64 x,.int .i64 n] (α:=AC) (fun y=> .slice y.a (j4 x n).length y.c) (fun y=>row (.slice y.a (j4 x n).length y.c) 5 1 (aE (j4 x n))::H):=by
 refine al func168 rfl ntmps168 rfl (gG ?_);refine ze rfl (zc (FP) rfl (fun x10=>gG ?_));refine yC ?_ ?_<;>intro h11 p11<;>refine gG ?_
 ·have e:j4 x n=[]:=by simp[j4,show fQ n=false by simpa using p11]
  simp only[e];exact zX ⟨none,0⟩ [_] results168 ⟨rfl,trivial⟩ rfl (fun w hw=>(SB w hw:St w0 H w).cP 5)
 have hw5:fQ n=true:=by simpa using p11
 have hw4:=o9 hw5;obtain⟨x,rfl⟩:=Xl hx;obtain⟨n,rfl⟩:=Xl (show 0<=n by omega);refine bH [5,6,7,8,13,14,15,16,17,18,19,20,21,22,23,24,25,26,27,28,29,30,31,32,33] [6,5] (fun vs H'=>∃(i:Nat)(a:Option Addr)(c:Nat),vs=[.int .i64 (i:Int),.slice a ((fixed x n).take i).length c]/\H'=row (.slice a ((fixed x n).take i).length c) 5 1 (aE ((fixed x n).take i))::H/\i<=n) (fun vs=>match vs with| .int _ i::_=>n-i.toNat|_=>0) ⟨0,none,0,by rw[XD];rfl,by rw[XD],Xv _⟩ (fun w hw=>hw.cP 5) ?_;rintro τ0 _ _ ⟨i,a1,c1,rfl,rfl,hi0⟩ _;refine gG ?_;refine yC ?_ ?_<;>intro h15 p15
 ·have hi:i<n:=om;refine gG ?_;refine bH [7,8,20,21,22,23,24,25,26,27] [8,7] (fun vs H'=>∃(k:Nat),vs=[.int .i64 (k:Int),.int .u64 ((x/256^(k-i):Nat):Int)]/\H'=row (.slice a1 ((fixed x n).take i).length c1) 5 1 (aE ((fixed x n).take i))::H/\i<=k/\k<=n-1) (fun vs=>match vs with| .int _ k::_=>n-k.toNat|_=>0) ⟨i,by rw[Y8,Nat.pow_zero,Nat.div_one];rfl,rfl,W8 _,om⟩ SB ?_;rintro τ1 _ _ ⟨k,rfl,rfl,hik,hkn⟩ _;refine gA ?_;refine yC ?_ ?_<;>intro h23 p23
  ·refine gG ?_;refine zq (qG rfl rfl om) rfl ?_;refine gA ?_;refine bW _ zA (⟨k+1,by rw[show(x/256^(k+1-i):Nat)=x/256^(k-i)/256 from by rw[YG,←X3];congr 2;omega,←rh _ _ om (Nat.lt_of_le_of_lt (YT _ _) om)];rfl,rfl,om,om⟩) (by show n-(k+1:Int).toNat<n-(k:Int).toNat;omega) (SB)
  have hkk:k-i=n-1-i:=om;refine gG ?_;refine Za ?_;refine zq (mc rfl rfl om) rfl (zq (bV rfl rfl underlying5) rfl ?_);refine ze rfl (dH (v:= .int .u8 (IntKind.u8.wrap _)) rfl (fun a32 c32=>?_));refine ze rfl (gj (n:=IntKind.u8.wrap _) (sv:= .slice _ _ _) (xv:= .slice _ _ _) rfl rfl (ie _) so rfl (fun a33 c33=>?_));rw[I8,hkk,←qT _ _ _ hi];refine gA ?_;refine bW _ zA (⟨i+1,a33,c33,rfl,rfl,om⟩) adH (SB)
 have et:(fixed x n).take i=fixed x n:=W7 aez;simp only[et];refine gG ?_;refine Za ?_;have e:j4 (x:Int) (n:Int)=fixed x n:=by simp[j4,hw5]
 simp only[e];exact zX ⟨a1,c1⟩ [_] results168 ⟨rfl,trivial⟩ rfl SB
theorem lS{x:Int}(hx:0<=x)(hx2:x<18446744073709551616):CT prog w0 (H) 231 [.int .u64 x] (α:=AC) (fun y=> .slice y.a (packed x.toNat).length y.c) (fun y=>row (.slice y.a (packed x.toNat).length y.c) 5 1 (aE (packed x.toNat))::H):=by
 refine al func231 rfl ntmps231 rfl (gG ?_);obtain⟨x,rfl⟩:=Xl hx;refine bH [0,3,4,5,6,7,8,9,10,11,12,13,14] [0,3] (fun vs H'=>∃(y:Nat)(dn:List UInt8)(a:Option Addr)(c:Nat),vs=[.int .u64 (y:Int),.slice a dn.length c]/\H'=row (.slice a (dn).length c) 5 1 (aE (dn))::H/\dn++packed y=packed x/\dn.length<=10/\(128^dn.length*y<=x)) (fun vs=>match vs with| .int _ i::_=>i.toNat|_=>0) ⟨x,[],none,0,rfl,rfl,rfl,sm,sm⟩ (fun w hw=>hw.cP 5) ?_;rintro τ0 _ _ ⟨y,dn,a1,c1,rfl,rfl,hd,hl2,hy⟩ _;refine gG ?_;refine yC ?_ ?_<;>intro h5 p5
 ·have hyb:¬y<128:=om;have hy64:y<18446744073709551616:=by have h1:1*y<=128^dn.length*y:=Xp _ (Nat.pow_pos om);omega
  have hdy:128^(dn++[UInt8.ofNat (y%128+128)]).length*(y/128)<=x:=by
   rw[WX,XB,X3,Nat.mul_assoc];exact aiJ
  have hdl:(dn++[UInt8.ofNat (y%128+128)]).length<=10:=by
   rw[WX,XB];rcases X7 dn.length 10 with h|h
   · omega
   · have h10:dn.length=10:=om
     rw[h10]at hy;omega
  refine gG ?_;refine zq (mc rfl rfl om) rfl (zq (bU rfl rfl) rfl (zq (bV rfl rfl underlying5) rfl ?_));refine ze rfl (dH (v:= .int .u8 (IntKind.u8.wrap _)) rfl (fun a11 c11=>?_));refine ze rfl (gj (n:=IntKind.u8.wrap _) (sv:= .slice _ _ _) (xv:= .slice _ _ _) rfl rfl (ie _) ahA rfl (fun a12 c12=>?_));rw[B3];refine gG ?_;refine zq (qG rfl rfl om) rfl ?_;refine gG ?_;refine bW _ zA (⟨y/128,dn++[UInt8.ofNat (y%128+128)],a12,c12,by rw[←rh y 128 om hy64];rfl,rfl,by rw[W4,List.singleton_append,←nJ hyb];exact hd,hdl,hdy⟩) (by show(IntKind.u64.wrap ((y:Int).tdiv ((128:Nat):Int))).toNat<(y:Int).toNat;rw[rh y 128 om hy64];omega) (SB)
 have hyb:y<128:=om;rw[kJ hyb]at hd;refine gG ?_;refine Za ?_;refine aby ?_;refine ze rfl (dH (v:= .int .u8 (IntKind.u8.wrap _)) rfl (fun a18 c18=>?_));refine ze rfl (gj (n:=IntKind.u8.wrap _) (sv:= .slice _ _ _) (xv:= .slice _ _ _) rfl rfl (ie _) ahA rfl (fun a19 c19=>?_));rw[kW];refine gG ?_;have e:packed (x:Int).toNat=dn++[UInt8.ofNat y]:=hd.symm;simp only[e];exact zX ⟨a19,c19⟩ [_] results231 ⟨rfl,trivial⟩ rfl SB
theorem pT{l2:List UInt8}[hr2:dT w0 H (.slice a2 l2.length c2) l2](hl2:l2.length<=2147483000):CT prog w0 (H) 169 [.slice a2 l2.length c2] (α:=AC) (fun y=> .slice y.a (aY l2).length y.c) (fun y=>row (.slice y.a (aY l2).length y.c) 5 1 (aE (aY l2))::H):=by
 refine al func169 rfl ntmps169 rfl (gG ?_);refine acQ ?_;refine ze rfl (zc (lS (x:=(l2.length:Int)) om om) rfl (fun x7=>?_));rw[show(l2.length:Int).toNat=l2.length from rfl];refine gG ?_;refine ze rfl (bR (sv:= .slice _ _ _) (xv:= .slice _ _ _) rfl rfl (by have:=bw l2.length om;simp;omega) rfl (fun a10 c10=>?_));rw[show packed l2.length++l2=aY l2 from rfl];refine gG ?_;exact zX ⟨a10,c10⟩ [_] results169 ⟨rfl,trivial⟩ rfl SB
theorem toList_take{n:Nat}(h:Vector UInt8 n)(i:Nat)(hi:i<n):h.toList.take i++[h[i]]=h.toList.take (i+1):=by
 rw[Xf acq];simp
theorem Kt(b:UInt8):mm (b.toNat:Int)=b:=by simp[mm]
theorem LA{h:Vector UInt8 32}:CT prog w0 (H) 230 [.agg (aX h).toArray] (α:=AC) (fun y=> .slice y.a h.toList.length y.c) (fun y=>row (.slice y.a h.toList.length y.c) 5 1 (aE h.toList)::H):=by
 refine al func230 rfl ntmps230 rfl (gG ?_);refine ze rfl (aZ rfl (fun b1=>gG ?_));refine bH [3,4,5,6,7,8,9,10,11,12,13,14] [4,3] (fun vs H'=>∃(i:Nat)(a:Option Addr)(c:Nat),vs=[.int .i64 (i:Int),.slice a (h.toList.take i).length c]/\H'=row (.slice a (h.toList.take i).length c) 5 1 (aE (h.toList.take i))::aF b1 (.cells (aX h).toArray 46 (0,0))::H/\i<=32) (fun vs=>match vs with| .int _ i::_=>32-i.toNat|_=>0) ⟨0,none,0,by rw[XD];rfl,by rw[XD],om⟩ (fun w hw=>hw.cP 5) ?_;rintro τ0 _ _ ⟨i,a1,c1,rfl,rfl,hi0⟩ _;refine gG ?_;refine yC ?_ ?_<;>intro h6 p6
 ·have hi:i<32:=om;refine gG ?_;refine adS ?_;have hcell:aw (aX h).toArray (0+((i:Int)).toNat*1) (.int .u8 (h[i].toNat:Int)):=⟨by simp[aX,aE,jM,hi]⟩;refine gG ?_;refine ze rfl (dH (v:= .int .u8 (h[i].toNat:Int)) rfl (fun a13 c13=>?_));refine ze rfl (gj (n:=(h[i].toNat:Int)) (sv:= .slice _ _ _) (xv:= .slice _ _ _) rfl rfl ⟨om,by have:=h[i].toNat_lt;omega⟩ so rfl (fun a14 c14=>?_));rw[Kt,toList_take h i hi];refine gA ?_;refine bW _ zA (⟨i+1,a14,c14,rfl,rfl,om⟩) aeF (SB)
 have et:h.toList.take i=h.toList:=W7 so;simp only[et];refine gG ?_;refine Za ?_;exact zX ⟨a1,c1⟩ [_] results230 ⟨rfl,trivial⟩ rfl SB
end Go.Proofs.YtmbfimckmfnnjaaGreatDoor
