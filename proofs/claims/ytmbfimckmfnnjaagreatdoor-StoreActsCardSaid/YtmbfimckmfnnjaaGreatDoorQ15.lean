/- Steps of the proof of a law. -/
import Derived.Test.YtmbfimckmfnnjaaGreatDoorQ05
set_option maxRecDepth 100000
set_option maxHeartbeats 1000000
set_option linter.unusedSimpArgs false
set_option linter.unusedVariables false
namespace Go.Proofs.YtmbfimckmfnnjaaGreatDoor
open Go.RowKit Go.Sx Go.Proofs.Tryz
def lh(x:UInt32)(k:Nat):UInt32:=(x<<<UInt32.ofNat (32-k))|||(x>>>UInt32.ofNat k)
def Kc:List UInt32:=[0x428a2f98,0x71374491,0xb5c0fbcf,0xe9b5dba5,0x3956c25b,0x59f111f1,0x923f82a4,0xab1c5ed5,0xd807aa98,0x12835b01,0x243185be,0x550c7dc3,0x72be5d74,0x80deb1fe,0x9bdc06a7,0xc19bf174,0xe49b69c1,0xefbe4786,0x0fc19dc6,0x240ca1cc,0x2de92c6f,0x4a7484aa,0x5cb0a9dc,0x76f988da,0x983e5152,0xa831c66d,0xb00327c8,0xbf597fc7,0xc6e00bf3,0xd5a79147,0x06ca6351,0x14292967,0x27b70a85,0x2e1b2138,0x4d2c6dfc,0x53380d13,0x650a7354,0x766a0abb,0x81c2c92e,0x92722c85,0xa2bfe8a1,0xa81a664b,0xc24b8b70,0xc76c51a3,0xd192e819,0xd6990624,0xf40e3585,0x106aa070,0x19a4c116,0x1e376c08,0x2748774c,0x34b0bcb5,0x391c0cb3,0x4ed8aa4a,0x5b9cca4f,0x682e6ff3,0x748f82ee,0x78a5636f,0x84c87814,0x8cc70208,0x90befffa,0xa4506ceb,0xbef9a3f7,0xc67178f2]
theorem tu:Kc.length=64:=dc
def Dz(x:UInt32):UInt32:=lh x 7^^^lh x 18^^^(x>>>UInt32.ofNat 3)
def xm(x:UInt32):UInt32:=lh x 17^^^lh x 19^^^(x>>>UInt32.ofNat 10)
def rL(l:List UInt8)(i:Nat):UInt32:=UInt32.ofNat (si ((l.drop (4*i)).take 4))
def ef(l:List UInt32)(i:Nat):UInt32:=(l[i]?).getD 0
def kD(l:List UInt8):Nat->List UInt32
 |0=>[]
 |n+1=>kD l n++[if n<16 then rL l n else ef (kD l n) (n-16)+ef (kD l n) (n-7)+Dz (ef (kD l n) (n-15))+xm (ef (kD l n) (n-2))]
theorem qe(l:List UInt8):∀n,(kD l n).length=n
 |0=>rfl
 |n+1=>by simp[kD,qe l n]
def iE(l:List UInt8)(i:Nat):List UInt32:=kD l i++List.replicate (64-i) 0
theorem l6(l:List UInt8)(i:Nat)(h:i<=64):(iE l i).length=64:=by simp[iE,qe];omega
theorem Df(l:List UInt8)(i j:Nat)(h:j<i):(iE l i)[j]? =some (ef (kD l i) j):=by
 rw[iE,List.getElem?_append_left (by rw[qe];exact h),ef,WW (by rw[qe];exact h)];rfl
theorem sw(l:List UInt8)(i:Nat)(h:i<64)(x:UInt32)(hx:x=if i<16 then rL l i else ef (kD l i) (i-16)+ef (kD l i) (i-7)+Dz (ef (kD l i) (i-15))+xm (ef (kD l i) (i-2))):(iE l i).set i x=iE l (i+1):=by
 have hl:=qe l i;obtain⟨k,hk⟩:∃k,64-i=k+1:=⟨63-i,om⟩;rw[iE,List.set_append_right _ _ (by rw[hl];exact W8 _),hl,Y8,hk,List.replicate_succ,List.set_cons_zero,iE,kD,←hx,show 64-(i+1)=k by omega];simp
theorem yZ(l:List UInt8):iE l 0=List.replicate 64 0:=rfl
attribute [irreducible] iE
structure S8 where
 (a b c d e f g h:UInt32)
@[reducible] def S8.list(s:S8):List UInt32:=[s.a,s.b,s.c,s.d,s.e,s.f,s.g,s.h]
def S8.cells(s:S8):Array Value:=(wl s.list).toArray
instance {s:S8}:aw s.cells 0 (fm s.a):=⟨rfl⟩
instance {s:S8}:aw s.cells 1 (fm s.b):=⟨rfl⟩
instance {s:S8}:aw s.cells 2 (fm s.c):=⟨rfl⟩
instance {s:S8}:aw s.cells 3 (fm s.d):=⟨rfl⟩
instance {s:S8}:aw s.cells 4 (fm s.e):=⟨rfl⟩
instance {s:S8}:aw s.cells 5 (fm s.f):=⟨rfl⟩
instance {s:S8}:aw s.cells 6 (fm s.g):=⟨rfl⟩
instance {s:S8}:aw s.cells 7 (fm s.h):=⟨rfl⟩
instance {s:S8}:Cells s.cells 8:=Cells.list adm agN
theorem HV{l:List UInt32}{n:Nat}(h:l.length=n):dh (wl l).toArray 0 n (wl l).toArray:=⟨by subst h;apply XX<;>simp⟩
theorem o0{l l':List UInt32}{n:Nat}(h:l.length=n)(h':l'.length=n):bD (wl l).toArray 0 (.agg (wl l').toArray) (wl l').toArray:=by
 have:=bD.fr ([]:List Value) (wl l) [] (cs:=(wl l).toArray) (o:=0) (n:=n) (v:= .agg (wl l').toArray) sm rfl afh (by simpa[Value.cells]using h');simpa[Value.cells]using this
instance {s:S8}:dh s.cells 0 8 s.cells:=HV rfl
instance {s u:S8}:bD s.cells 0 (.agg u.cells) u.cells:=o0 rfl rfl
instance {u:S8}:bD (wl (List.replicate 8 0)).toArray 0 (.agg u.cells) u.cells:=o0 sm rfl
instance {l:List UInt8}:bD (wl (List.replicate 64 0)).toArray 0 (.agg (wl (iE l 64)).toArray) (wl (iE l 64)).toArray:=o0 sm (l6 l 64 om)
instance{l:List UInt8}:Cells (wl (iE l 64)).toArray 64:=Cells.list (by simp[l6]) agN
instance{l:List UInt8}:dh (wl (iE l 64)).toArray 0 64 (wl (iE l 64)).toArray:=HV (l6 l 64 om)
def Pe(k w:UInt32)(s:S8):S8:=
 let t:=s.h+(lh s.e 6^^^lh s.e 11^^^lh s.e 25)+((s.e&&& s.f)^^^(~~~s.e&&& s.g))+k+w
 let u:=(lh s.a 2^^^lh s.a 13^^^lh s.a 22)+((s.a&&& s.b)^^^(s.a&&& s.c)^^^(s.b&&& s.c))
 ⟨t+u,s.a,s.b,s.c,s.d+t,s.e,s.f,s.g⟩
def kI(l:List UInt8)(s:S8):Nat->S8
 |0=>s
 |n+1=>Pe (ef Kc n) (ef (kD l 64) n) (kI l s n)
def S8.add(s v:S8):S8:=⟨s.a+v.a,s.b+v.b,s.c+v.c,s.d+v.d,s.e+v.e,s.f+v.f,s.g+v.g,s.h+v.h⟩
def compress(l:List UInt8)(s:S8):S8:=s.add (kI l s 64)
def S8.init:S8:=⟨0x6a09e667,0xbb67ae85,0x3c6ef372,0xa54ff53a,0x510e527f,0x9b05688c,0x1f83d9ab,0x5be0cd19⟩
def mU{α:Type}(f:List UInt8->α->α):Nat->List UInt8->α->α
 |0,_,s=>s
 |n+1,l,s=>mU f n (l.drop 64) (f (l.take 64) s)
theorem Hl{α:Type}(f:List UInt8->α->α)(y:List UInt8)(m:Nat):∀(q:Nat)(x:List UInt8)(s:α),x.length=64*q->mU f (q+m) (x++y) s=mU f m y (mU f q x s):=by
 intro q
 induction q with
 |zero=>
   intro x s h;obtain rfl:x=[]:=Xr om;simp[mU]
 |succ q ih=>
   intro x s h;rw[show q+1+m=(q+m)+1 by omega,mU,mU];rw[Yi om,X4 om];exact ih (x.drop 64) _ so
theorem EE{α:Type}(f:List UInt8->α->α):∀(n:Nat)(l:List UInt8)(s:α),64*(n+1)<=l.length->mU f (n+1) l s=f ((l.drop (64*n)).take 64) (mU f n l s):=by
 intro n
 induction n with
 |zero=>intro l s h;simp[mU]
 |succ n ih=>
   intro l s h;rw[mU,ih (l.drop 64) _ so,mU,X2,show 64+64*n=64*(n+1) by omega]
def jd(n:Nat)(l:List UInt8)(s:S8):S8:=mU compress n l s
def jZ(n:Nat):Nat:=(119-n%64)%64
def bK(l:List UInt8)(n:Nat):List UInt8:=l++[128]++List.replicate (jZ l.length) 0++fixed (8*n) 8
def gK(s:S8):Vector UInt8 32:=Vector.ofFn fun j=>UInt8.ofNat ((ef s.list (j.val/4)).toNat/2^(24-8*(j.val%4)))
def fH(l:List UInt8):Vector UInt8 32:=gK (jd ((bK l l.length).length/64) (bK l l.length) S8.init)
theorem BV(y:List UInt8)(q m:Nat)(x:List UInt8)(s:S8)(h:x.length=64*q):jd (q+m) (x++y) s=jd m y (jd q x s):=Hl compress y m q x s h
theorem sX(n:Nat)(l:List UInt8)(s:S8)(h:64*(n+1)<=l.length):jd (n+1) l s=compress ((l.drop (64*n)).take 64) (jd n l s):=EE compress n l s h
theorem vv(l:List UInt8)(n:Nat):(bK l n).length=l.length+1+jZ l.length+8:=by simp[bK,aO];omega
theorem wv(l:List UInt8)(n:Nat):(bK l n).length%64=0:=by rw[vv];unfold jZ;omega
theorem AG(l:List UInt8)(n q:Nat)(h:64*q<=l.length):bK l n=l.take (64*q)++bK (l.drop (64*q)) n:=by
 have e:jZ (l.drop (64*q)).length=jZ l.length:=by unfold jZ;simp;omega
 unfold bK;rw[e];simp only[←W4,XC]
theorem Gp(l:List UInt8)(q:Nat)(h:64*q<=l.length):fH l=gK (jd ((bK (l.drop (64*q)) l.length).length/64) (bK (l.drop (64*q)) l.length) (jd q l S8.init)):=by
 unfold fH;have hp:=AG l l.length q h;have h1:(l.take (64*q)).length=64*q:=so;have e1:(bK l l.length).length/64=q+(bK (l.drop (64*q)) l.length).length/64:=by
   rw[hp,WX,h1];omega
 rw[e1,hp,BV _ q _ _ _ h1];have e2:jd q l S8.init=jd q (l.take (64*q)) S8.init:=by
   have:=BV (l.drop (64*q)) q 0 (l.take (64*q)) S8.init h1;rw[Nat.add_zero,XC]at this;rw[this];rfl
 rw[e2]
theorem uV(a:UInt8)(s:Nat)(hs:s<=24):(UInt32.ofNat a.toNat<<<UInt32.ofNat s).toNat=a.toNat*2^s:=by
 have ha:=a.toNat_lt;have h1:a.toNat*2^s<2^32:=by
   have h2:(2:Nat)^s<=2^24:=X8 dc hs;have h3:=Yz (show a.toNat<=255 by omega) h2;omega
 rw[UInt32.toNat_shiftLeft,Yj,Yj,Nat.shiftLeft_eq,show s%2^32%32=s by omega,show a.toNat%2^32=a.toNat by omega,XN h1]
theorem OE(a b c d:UInt8):((((UInt32.ofNat a.toNat<<<UInt32.ofNat 24)|||(UInt32.ofNat b.toNat<<<UInt32.ofNat 16))|||(UInt32.ofNat c.toNat<<<UInt32.ofNat 8))|||UInt32.ofNat d.toNat)=UInt32.ofNat (si [a,b,c,d]):=by
 have ha:=a.toNat_lt;have hb:=b.toNat_lt;have hc:=c.toNat_lt;have hd:=d.toNat_lt;have e1:=uV a 24 dc;have e2:=uV b 16 dc;have e3:=uV c 8 dc;have e4:(UInt32.ofNat d.toNat).toNat=d.toNat:=by rw[Yj];omega
 apply UInt32.toNat_inj.1;rw[UInt32.toNat_or,UInt32.toNat_or,UInt32.toNat_or,e1,e2,e3,e4,Yj];rw[u5 a.toNat (b.toNat*2^16) 24 om,show a.toNat*2^24+b.toNat*2^16=(a.toNat*256+b.toNat)*2^16 by omega,u5 _ (c.toNat*2^8) 16 om,show(a.toNat*256+b.toNat)*2^16+c.toNat*2^8=((a.toNat*256+b.toNat)*256+c.toNat)*2^8 by omega,u5 _ d.toNat 8 om];simp only[si,Ys,List.foldl_nil];omega
theorem Ln{l:List UInt8}{i:Nat}(h:4*i+3<l.length):((((UInt32.ofNat l[4*i].toNat<<<UInt32.ofNat 24)|||(UInt32.ofNat l[4*i+1].toNat<<<UInt32.ofNat 16))|||(UInt32.ofNat l[4*i+2].toNat<<<UInt32.ofNat 8))|||UInt32.ofNat l[4*i+3].toNat)=rL l i:=by
 have e:(l.drop (4*i)).take 4=[l[4*i],l[4*i+1],l[4*i+2],l[4*i+3]]:=by
   rw[Xu (show 4*i<l.length by omega),Xu (show 4*i+1<l.length by omega),Xu (show 4*i+1+1<l.length by omega),Xu (show 4*i+1+1+1<l.length by omega)];rfl
 rw[OE,rL,e]
theorem Lt(k:Nat)(h0:0<k)(hk:k<32):IntKind.u64.wrap ((BitVec.ofInt IntKind.u64.bits (IntKind.u64.wrap (IntKind.i64.wrap (0-(k:Int))))&&& BitVec.ofInt IntKind.u64.bits 31).toNat:Int)=((32-k:Nat):Int):=by
 have key:∀z:Fin 32,0<z.val->IntKind.u64.wrap ((BitVec.ofInt IntKind.u64.bits (IntKind.u64.wrap (IntKind.i64.wrap (0-(z.val:Int))))&&& BitVec.ofInt IntKind.u64.bits 31).toNat:Int)=((32-z.val:Nat):Int):=adv;exact key ⟨k,hk⟩ h0
theorem vV(n:Nat):IntKind.u32.wrap (n:Int)=((UInt32.ofNat n).toNat:Int):=by
 rw[Yj];simp[IntKind.wrap,IntKind.bits,IntKind.signed]
theorem vl(n m:Nat):(n:Int).tmod (m:Int)=((n%m:Nat):Int):=rfl
theorem NI{w0:World}{H:List SA}{x:UInt32}{k:Nat}(h0:0<k)(hk:k<32):CT prog w0 (H) 269 [fm x,.int .i64 (IntKind.i64.wrap (0-(k:Int)))] (α:=Unit) (fun _=>fm (lh x k)) (fun _=>H):=by
 refine al func269 rfl ntmps269 rfl (gG ?_);refine zq (bV rfl rfl underlying224) rfl (zq (bI (IE rfl rfl) (congrArg (Value.int .u64) (Lt k h0 hk))) rfl ?_);refine gG ?_;refine zq (px (32-k) rfl rfl om) rfl ?_;refine gG ?_;refine zq (bI (iq rfl rfl) (congrArg (Value.int .u64) (show IntKind.u64.wrap (32-((32-k:Nat):Int))=((k:Nat):Int)from by rw[wrap_u64 om om];omega))) rfl (zq (mg k rfl rfl hk) rfl (zq (sd rfl rfl) rfl ?_));refine gG ?_;exact zX () [_] results269 ⟨rfl,trivial⟩ rfl SB
theorem mK{w0:World}{H:List SA}{x:UInt32}{k:Nat}(h0:0<k)(hk:k<32):CT prog w0 (H) 243 [fm x,.int .i64 (k:Int)] (α:=Unit) (fun _=>fm (lh x k)) (fun _=>H):=by
 refine al func243 rfl ntmps243 rfl (gG ?_);refine zq (z7 rfl) rfl ?_;refine ze rfl (zc (NI (x:=x) (k:=k) h0 hk) rfl (fun x8=>gG ?_));exact zX () [_] results243 ⟨rfl,trivial⟩ rfl SB
theorem MI{w0:World}{H:List SA}:CT prog w0 (H) 183 [] (α:=Unit) (fun _=> .agg S8.init.cells) (fun _=>H):=by
 refine al func183 rfl ntmps183 rfl (gG ?_);refine ze rfl (an (fun b0=>gG ?_));refine zq (ck S8.init.cells underlying288 rfl rfl kr) rfl ?_;refine aag ?_;exact zX () [_] results183 ⟨⟨_,rfl,ak rfl⟩,trivial⟩ rfl SB
theorem JJ{w0:World}{H:List SA}:CT prog w0 (H) 184 [] (α:=Nat) (fun b=> .pointer (some ⟨b,0,none⟩)) (fun b=>aF b (.cells (wl Kc).toArray 333 (0,0))::H):=by
 refine al func184 rfl ntmps184 rfl (gG ?_);refine agb ?_;refine ze rfl (an (fun b1=>?_));have hp0:bD (wl (List.replicate 64 0)).toArray 0 (.agg (wl Kc).toArray) (wl Kc).toArray:=o0 sm tu;have hc0:Cells (wl Kc).toArray 64:=Cells.list (by simp[tu]) agN;refine aag ?_;exact zX b1 [_] results184 ⟨rfl,trivial⟩ rfl SB
theorem yd{l:List UInt8}{i m j k:Nat}(hij:i<=m)(hm:m<=i+1)(hk:j+k=i)(hk0:0<k){n:Nat}(hn:n=j):(wl (iE l m)).toArray[n]? =some (fm (ef (kD l i) j)):=by
 subst hn;have e:ef (kD l m) n=ef (kD l i) n:=by
   rcases(by omega:m=i∨m=i+1)with rfl|rfl
   · rfl
   · simp only[ef,kD]
     rw[List.getElem?_append_left (by rw[qe];omega)]
 rw[YI,wl,XZ,Df l m n om,e];rfl
theorem oS{w0 w:World}{H Hr:List SA}{b T:Nat}{l:List UInt8}{i m:Nat}{fz:Nat×Nat}[h:qC b H (.cells (wl (iE l m)).toArray T fz) Hr](hi:16<=i)(hij:i<=m)(hm:m<=i+1)(hw:St w0 H w):St w0 [cellsOf b [(0+((i:Int)-16).toNat*1,fm (ef (kD l i) (i-16))),(0+((i:Int)-7).toNat*1,fm (ef (kD l i) (i-7)))]] w:=
 St.cellsOf (fun p hp=>by
   simp only[Xg,List.not_mem_nil,or_false]at hp;rcases hp with rfl|rfl
   · exact yd hij hm (show i-16+16=i by omega) om om
   · exact yd hij hm (show i-7+7=i by omega) om om) hw
theorem K0{w0:World}{H:List SA}{a:Option Addr}{l:List UInt8}{c:Nat}[hr:dT w0 H (.slice a l.length c) l](hl:l.length=64):CT prog w0 (H) 242 [.slice a l.length c] (α:=Unit) (fun _=> .agg (wl (iE l 64)).toArray) (fun _=>H):=by
 refine al func242 rfl ntmps242 rfl (gG ?_);refine ze rfl (an (fun b2=>gG ?_));refine ze rfl (an (fun b3=>gG ?_));refine bH [4,8,9,10,11,12,13,14,15,16,17,18,19,20,21,22,23,24,25,26,27,28,29,30,31,32,33,34,35,36,37,38,39,40,41,42,43,44,45,46] [8] (fun us H'=>∃(i:Nat),us=[.int .i64 (i:Int)]/\aF b3 (.cells (wl (iE l (i))).toArray 333 (0,0))::aF b2 (.cells (wl (List.replicate 64 0)).toArray 333 (0,0))::H=H'/\i<=16) (fun us=>match us with| .int _ i::_=>16-i.toNat|_=>0) ⟨0,rfl,rfl,om⟩ (fun w hw=>by rw[yZ];exact SB w hw) ?_;rintro τ0 _ _ ⟨i,rfl,rfl,hi0⟩ _;refine gG ?_;refine yC ?_ ?_<;>intro h9 p9
 ·have hi:i<16:=om;refine gG ?_;refine dw H [(0,true),(1,true),(2,true),(3,true),(4,true),(5,true),(6,true),(7,true),(8,true),(9,true),(10,true),(11,true),(12,true),(13,true),(14,true),(15,true),(16,true),(17,true),(18,true),(19,true),(20,true),(21,true),(22,true),(23,true),(24,true),(25,true),(26,true),(27,true),(28,true),(29,true),(30,true),(31,true),(32,true),(33,true),(34,true),(35,false)] (fun hns0=>?_);refine zd hns0 rfl (zm (.int .i64 _) rfl) rfl (zd hns0 rfl (zm (.slice _ _ _) rfl) rfl (zd hns0 rfl (zm (.int .i64 _) rfl) rfl ?_))
  first|refine zd hns0 rfl (mG rfl rfl om om) rfl ?_|refine zd hns0 rfl (gq rfl rfl) rfl ?_
  refine zd hns0 rfl (bj rfl rfl om (by rw[jQ];omega)) rfl (zd hns0 rfl (bC (.int .u8 (l[4*i].toNat:Int)) rfl (by rw[show(4*(i:Int)).toNat=4*i from by omega];exact eO _ _ om)) rfl (zd hns0 rfl (bI (bV rfl rfl underlying275) (congrArg (Value.int .u32) (vV l[4*i].toNat))) rfl (zd hns0 rfl (px 24 rfl rfl dc) rfl (zd hns0 rfl (zm (.slice _ _ _) rfl) rfl (zd hns0 rfl (zm (.int .i64 _) rfl) rfl ?_)))))
  first|refine zd hns0 rfl (mG rfl rfl om om) rfl ?_|refine zd hns0 rfl (gq rfl rfl) rfl ?_
  first|refine zd hns0 rfl (gh rfl rfl om om) rfl ?_|refine zd hns0 rfl (bU rfl rfl) rfl ?_
  refine zd hns0 rfl (bj rfl rfl om (by rw[jQ];omega)) rfl (zd hns0 rfl (bC (.int .u8 (l[4*i+1].toNat:Int)) rfl (by rw[show(4*(i:Int)+1).toNat=4*i+1 from by omega];exact eO _ _ om)) rfl (zd hns0 rfl (bI (bV rfl rfl underlying275) (congrArg (Value.int .u32) (vV l[4*i+1].toNat))) rfl (zd hns0 rfl (px 16 rfl rfl dc) rfl (zd hns0 rfl (sd rfl rfl) rfl (zd hns0 rfl (zm (.slice _ _ _) rfl) rfl (zd hns0 rfl (zm (.int .i64 _) rfl) rfl ?_))))))
  first|refine zd hns0 rfl (mG rfl rfl om om) rfl ?_|refine zd hns0 rfl (gq rfl rfl) rfl ?_
  first|refine zd hns0 rfl (gh rfl rfl om om) rfl ?_|refine zd hns0 rfl (bU rfl rfl) rfl ?_
  refine zd hns0 rfl (bj rfl rfl om (by rw[jQ];omega)) rfl (zd hns0 rfl (bC (.int .u8 (l[4*i+2].toNat:Int)) rfl (by rw[show(4*(i:Int)+2).toNat=4*i+2 from by omega];exact eO _ _ om)) rfl (zd hns0 rfl (bI (bV rfl rfl underlying275) (congrArg (Value.int .u32) (vV l[4*i+2].toNat))) rfl (zd hns0 rfl (px 8 rfl rfl dc) rfl (zd hns0 rfl (sd rfl rfl) rfl (zd hns0 rfl (zm (.slice _ _ _) rfl) rfl (zd hns0 rfl (zm (.int .i64 _) rfl) rfl ?_))))))
  first|refine zd hns0 rfl (mG rfl rfl om om) rfl ?_|refine zd hns0 rfl (gq rfl rfl) rfl ?_
  first|refine zd hns0 rfl (gh rfl rfl om om) rfl ?_|refine zd hns0 rfl (bU rfl rfl) rfl ?_
  refine zd hns0 rfl (bj rfl rfl om (by rw[jQ];omega)) rfl (zd hns0 rfl (bC (.int .u8 (l[4*i+3].toNat:Int)) rfl (by rw[show(4*(i:Int)+3).toNat=4*i+3 from by omega];exact eO _ _ om)) rfl (zd hns0 rfl (bI (bV rfl rfl underlying275) (congrArg (Value.int .u32) (vV l[4*i+3].toNat))) rfl (zd hns0 rfl (sd rfl rfl) rfl ?_)));rw[Ln om];refine zd hns0 rfl (ct (sz:=1) rfl rfl underlying333 rfl rfl om om) rfl ?_;have hput:bD (wl (iE l i)).toArray (0+(i:Int).toNat*1) (fm (rL l i)) (wl (iE l (i+1))).toArray:=by have:=rG (l:=iE l i) (n:=0+(i:Int).toNat*1) (i:=i) (x:=rL l i) sm agO;rwa [sw l i om _ (by rw[if_pos hi])]at this
  refine agC ?_;refine bW _ zA (⟨i+1,rfl,rfl,om⟩) (by show 16-(i+1:Int).toNat<16-(i:Int).toNat;omega) (SB)
 have hi:i=16:=om;subst hi;refine gG ?_;refine Za ?_;refine bH [5,6,7,47,48,49,50,51,52,53,54,55,56,57,58,59,60,61,62,63,64,65,66,67,68,69,70,71,72,73,74,75,76,77,78,79,80,81,82,83,84,85,86,87] [5] (fun us H'=>∃i:Nat,us=[.int .i64 (i:Int)]/\aF b3 (.cells (wl (iE l (i))).toArray 333 (0,0))::aF b2 (.cells (wl (List.replicate 64 0)).toArray 333 (0,0))::H=H'/\16<=i/\i<=64) (fun us=>match us with| .int _ i::_=>64-i.toNat|_=>0) ⟨16,rfl,rfl,om,om⟩ SB ?_;rintro τ1 _ _ ⟨i,rfl,rfl,hi16,hi0⟩ _;refine gG ?_;refine yC ?_ ?_<;>intro h48 p48
 ·have hi:i<64:=om;refine gG ?_;refine dv [(0,true),(1,true),(2,true),(3,true),(4,true),(5,true),(6,true),(7,true),(8,true),(9,true)] (fun hns1=>?_);refine ahF ?_
  first|refine zd hns1 rfl (jG rfl rfl om om) rfl ?_|refine zd hns1 rfl (iq rfl rfl) rfl ?_
  refine zd hns1 rfl (ct (sz:=1) rfl rfl underlying333 rfl rfl om om) rfl (zd hns1 rfl (kk (fm (ef (kD l i) (i-15))) rfl (fun w hw=>by rw[di ((inferInstance:Mem w0 _ b3 _).get w hw)];exact yd (W8 _) om (show i-15+15=i by omega) om om)) rfl (zd hns1 rfl (zm (.int .i64 _) rfl) rfl ?_))
  first|refine zd hns1 rfl (jG rfl rfl om om) rfl ?_|refine zd hns1 rfl (iq rfl rfl) rfl ?_
  refine zd hns1 rfl (ct (sz:=1) rfl rfl underlying333 rfl rfl om om) rfl (zd hns1 rfl (kk (fm (ef (kD l i) (i-2))) rfl (fun w hw=>by rw[di ((inferInstance:Mem w0 _ b3 _).get w hw)];exact yd (W8 _) om (show i-2+2=i by omega) om om)) rfl ?_);refine gA ?_;refine vC [cellsOf b3 [(0+((i:Int)-16).toNat*1,fm (ef (kD l i) (i-16))),(0+((i:Int)-7).toNat*1,fm (ef (kD l i) (i-7)))]] [(0,true),(1,true),(2,true),(3,true),(4,true),(5,true),(6,true),(7,true),(8,true),(9,true),(10,true),(12,true),(15,true),(16,true),(19,true),(21,true),(24,true),(25,true),(11,false),(13,false),(14,true),(17,true),(18,true),(20,false),(22,false),(23,true),(26,true),(27,true),(28,true),(29,false)] kr kr rfl kr (fun w hw=>oS hi16 (W8 _) om hw) (fun hns2=>?_);refine zd hns2 rfl (zm (.int .i64 _) rfl) rfl (zd hns2 rfl (zm (.int .i64 _) rfl) rfl ?_)
  first|refine zd hns2 rfl (jG rfl rfl om om) rfl ?_|refine zd hns2 rfl (iq rfl rfl) rfl ?_
  refine zd hns2 rfl (ct (sz:=1) rfl rfl underlying333 rfl rfl om om) rfl (zd hns2 rfl (kk (fm (ef (kD l i) (i-16))) rfl (fun w hw=>mE hw sm)) rfl (zd hns2 rfl (zm (.int .i64 _) rfl) rfl ?_))
  first|refine zd hns2 rfl (jG rfl rfl om om) rfl ?_|refine zd hns2 rfl (iq rfl rfl) rfl ?_
  refine zd hns2 rfl (ct (sz:=1) rfl rfl underlying333 rfl rfl om om) rfl (zd hns2 rfl (kk (fm (ef (kD l i) (i-7))) rfl (fun w hw=>mE hw sm)) rfl (zd hns2 rfl (dI rfl rfl) rfl (zd hns2 rfl (zm (.int .u32 _) rfl) rfl (zd hns2 rfl (zm (.int .u32 _) rfl) rfl (zd hns2 rfl (zm (.int .u32 _) rfl) rfl (zd hns2 rfl (mg 3 rfl rfl dc) rfl (zd hns2 rfl (zm (.int .u32 _) rfl) rfl ?_)))))));refine zd hns2 rfl (zm (.int .u32 _) rfl) rfl (zd hns2 rfl (zm (.int .u32 _) rfl) rfl (zd hns2 rfl (mg 10 rfl rfl dc) rfl ?_));refine cX rfl rfl (zc (mK (k:=7) dc dc) rfl (fun x70=>⟨(fun w hw=>oS hi16 (W8 _) om hw),?_⟩));refine cX rfl rfl (zc (mK (k:=18) dc dc) rfl (fun x72=>⟨(fun w hw=>oS hi16 (W8 _) om hw),?_⟩));refine zd hns2 rfl (eR rfl rfl) rfl (zd hns2 rfl (eR rfl rfl) rfl (zd hns2 rfl (dI rfl rfl) rfl ?_));refine cX rfl rfl (zc (mK (k:=17) dc dc) rfl (fun x79=>⟨(fun w hw=>oS hi16 (W8 _) om hw),?_⟩));refine cX rfl rfl (zc (mK (k:=19) dc dc) rfl (fun x81=>⟨(fun w hw=>oS hi16 (W8 _) om hw),?_⟩));refine zd hns2 rfl (eR rfl rfl) rfl (zd hns2 rfl (eR rfl rfl) rfl (zd hns2 rfl (dI rfl rfl) rfl (zd hns2 rfl (ct (sz:=1) rfl rfl underlying333 rfl rfl om om) rfl ?_)))
  have hput:bD (wl (iE l i)).toArray (0+(i:Int).toNat*1) (fm (ef (kD l i) (i-16)+ef (kD l i) (i-7)+(lh (ef (kD l i) (i-15)) 7^^^lh (ef (kD l i) (i-15)) 18^^^(ef (kD l i) (i-15)>>>UInt32.ofNat 3))+(lh (ef (kD l i) (i-2)) 17^^^lh (ef (kD l i) (i-2)) 19^^^(ef (kD l i) (i-2)>>>UInt32.ofNat 10)))) (wl (iE l (i+1))).toArray:=by have:=rG (l:=iE l i) (n:=0+(i:Int).toNat*1) (i:=i) (x:=ef (kD l i) (i-16)+ef (kD l i) (i-7)+Dz (ef (kD l i) (i-15))+xm (ef (kD l i) (i-2))) sm agO;rw[sw l i om _ (by rw[if_neg om])]at this;exact this
  refine gS rfl (az (.int .u32 _) rfl rfl (⟨(fun w hw=>oS hi16 (Nat.le_succ _) (W8 _) hw),(gA ?_)⟩));refine bW _ zA (⟨i+1,rfl,rfl,om,om⟩) ahY (SB)
 have hi:i=64:=om;subst hi;refine gG ?_;refine Za ?_;refine aag ?_;exact zX () [_] results242 ⟨⟨_,rfl,ak rfl⟩,trivial⟩ rfl SB
theorem OG(a b c d e f g h:UInt32):Instr.fill (fun i=>some (i*1,1)) (wl (List.replicate 8 0)).toArray [(0,fm a),(1,fm b),(2,fm c),(3,fm d),(4,fm e),(5,fm f),(6,fm g),(7,fm h)]=some (S8.mk a b c d e f g h).cells:=by
 have h1:=qD 1 [fm a,fm b,fm c,fm d,fm e,fm f,fm g,fm h] 0 [] (wl (List.replicate 8 0)) abY rfl sm;exact h1
theorem GM(l:List UInt8)(s:S8):kI l s 0=s:=rfl
theorem Nx(k w:UInt32)(s:S8):S8.mk ((s.h+(lh s.e 6^^^lh s.e 11^^^lh s.e 25)+((s.e&&& s.f)^^^(~~~s.e&&& s.g))+k+w)+((lh s.a 2^^^lh s.a 13^^^lh s.a 22)+((s.a&&& s.b)^^^(s.a&&& s.c)^^^(s.b&&& s.c)))) s.a s.b s.c
 (s.d+(s.h+(lh s.e 6^^^lh s.e 11^^^lh s.e 25)+((s.e&&& s.f)^^^(~~~s.e&&& s.g))+k+w)) s.e s.f s.g=Pe k w s:=rfl
theorem xM(l:List UInt8)(s:S8)(n:Nat):kI l s (n+1)=Pe (ef Kc n) (ef (kD l 64) n) (kI l s n):=rfl
theorem pY{l:List UInt32}{n i:Nat}(hn:n=i)(h:i<l.length):aw (wl l).toArray n (fm (ef l i)):=wz hn (by rw[ef,WW h];rfl)
theorem FI{l:List UInt8}{n i:Nat}(hn:n=i)(h:i<64):aw (wl (iE l 64)).toArray n (fm (ef (kD l 64) i)):=wz hn (Df l 64 i h)
def wj(s v:S8)(i:Nat):List UInt32:=(s.add v).list.take i++s.list.drop i
theorem H8(s v:S8)(i:Nat)(h:i<=8):(wj s v i).length=8:=by simp[wj];omega
theorem KN(s v:S8)(i:Nat)(h:i<8):(wj s v i)[i]? =some (ef s.list i):=by
 rcases(by omega:i=0∨i=1∨i=2∨i=3∨i=4∨i=5∨i=6∨i=7)with rfl|rfl|rfl|rfl|rfl|rfl|rfl|rfl<;>rfl
theorem IH(s v:S8)(i:Nat)(h:i<8):(wj s v i).set i (ef s.list i+ef v.list i)=wj s v (i+1):=by
 rcases(by omega:i=0∨i=1∨i=2∨i=3∨i=4∨i=5∨i=6∨i=7)with rfl|rfl|rfl|rfl|rfl|rfl|rfl|rfl<;>rfl
theorem Ft{w0:World}{H:List SA}{a:Option Addr}{l:List UInt8}{c kb:Nat}{s:S8}[hr:dT w0 H (.slice a l.length c) l][hkb:Mem w0 H kb (.cells (wl Kc).toArray 333 (0,0))](hl:l.length=64):CT prog w0 (H) 185 [.agg s.cells,.slice a l.length c,.pointer (some ⟨kb,0,none⟩)] (α:=Unit) (fun _=> .agg (compress l s).cells) (fun _=>H):=by
 refine al func185 rfl ntmps185 rfl (gG ?_);refine ze rfl (aZ rfl (fun b3=>?_));refine ze rfl (an (fun b6=>gG ?_));refine ze rfl (zc (K0 hl) rfl (fun x16=>?_));refine ze rfl (an (fun b7=>?_));refine aag ?_;refine ze rfl (an (fun b8=>?_));refine aag ?_;refine bH [9,10,11,12,13,18,19,20,21,22,23,24,25,26,27,28,29,30,31,32,33,34,35,36,37,38,39,40,41,42,43,44,45,46,47,48,49,50,51,52,53,54,55,56,57,58,59,60,61,62,63,64,65,66,67,68,69,70,71,72,73,74,75,76,77,78,79,80,81,82,83,84,85,86,87,88,89,90,91,92,93,94,95,96,97,98,99,100,101] [18] (fun us H'=>∃(i:Nat),us=[.int .i64 (i:Int)]/\aF b8 (.cells (kI l s i).cells 288 (0,0))::aF b7 (.cells (wl (iE l 64)).toArray 333 (0,0))::aF b6 (.cells (wl (List.replicate 8 0)).toArray 288 (0,0))::aF b3 (.cells s.cells 288 (0,0))::H=H'/\i<=64) (fun us=>match us with| .int _ i::_=>64-i.toNat|_=>0) ⟨0,rfl,rfl,om⟩ (fun w hw=>by rw[GM];exact SB w hw) ?_;rintro τ0 _ _ ⟨i,rfl,rfl,hi0⟩ _;refine gG ?_;refine yC ?_ ?_<;>intro h19 p19
 ·have hi:i<64:=om;refine gG ?_;refine dv [(0,true),(1,true),(2,true),(3,true),(4,true),(5,true)] (fun hns0=>?_);refine zd hns0 rfl (aQ (sz:=1) 4 4 rfl rfl underlying288 rfl rfl rfl rfl) rfl (zd hns0 rfl (zl rfl) rfl (zd hns0 rfl (aQ (sz:=1) 0 0 rfl rfl underlying288 rfl rfl rfl rfl) rfl ?_));refine gA ?_;refine dv [(0,true),(1,true),(2,true),(4,true),(7,true),(11,true),(12,true),(13,true),(14,true),(15,true),(16,true),(17,true),(18,true),(19,true),(20,true),(22,true),(23,true),(24,true),(25,true),(26,true),(28,true),(29,true),(30,true),(3,false),(5,false),(6,true),(8,false),(9,true),(10,true),(21,true),(27,true),(31,true),(32,true)] (fun hns1=>?_);refine zd hns1 rfl (aQ (sz:=1) 7 7 rfl rfl underlying288 rfl rfl rfl rfl) rfl (zd hns1 rfl (zl rfl) rfl (zd hns1 rfl (zm (.int .u32 _) rfl) rfl (zd hns1 rfl (zm (.int .u32 _) rfl) rfl (zd hns1 rfl (zm (.int .u32 _) rfl) rfl (zd hns1 rfl (zm (.int .u32 _) rfl) rfl (zd hns1 rfl (aQ (sz:=1) 5 5 rfl rfl underlying288 rfl rfl rfl rfl) rfl (zd hns1 rfl (zl rfl) rfl ?_)))))));refine zd hns1 rfl (jT rfl rfl) rfl (zd hns1 rfl (zm (.int .u32 _) rfl) rfl (zd hns1 rfl (CA rfl) rfl (zd hns1 rfl (aQ (sz:=1) 6 6 rfl rfl underlying288 rfl rfl rfl rfl) rfl (zd hns1 rfl (zl rfl) rfl (zd hns1 rfl (jT rfl rfl) rfl (zd hns1 rfl (eR rfl rfl) rfl (zd hns1 rfl (zm (.pointer _) rfl) rfl ?_)))))));refine zd hns1 rfl (zm (.int .i64 _) rfl) rfl (zd hns1 rfl (aN rfl) rfl (zd hns1 rfl (ct (sz:=1) rfl rfl underlying333 rfl rfl om om) rfl ?_))
  have cK:=pY (l:=Kc) (n:=0+(i:Int).toNat*1) (i:=i) sm (by rw[tu];exact hi);refine zd hns1 rfl (zl rfl) rfl (zd hns1 rfl (zm (.int .i64 _) rfl) rfl (zd hns1 rfl (ct (sz:=1) rfl rfl underlying333 rfl rfl om om) rfl ?_));have cW:=FI (l:=l) (n:=0+(i:Int).toNat*1) (i:=i) sm hi;refine gA ?_;refine cX rfl rfl (zc (mK (k:=6) dc dc) rfl (fun x28=>⟨SB,?_⟩));refine cX rfl rfl (zc (mK (k:=11) dc dc) rfl (fun x30=>⟨SB,?_⟩));refine aiN ?_;refine cX rfl rfl (zc (mK (k:=25) dc dc) rfl (fun x33=>⟨SB,?_⟩));refine zd hns1 rfl (eR rfl rfl) rfl (zd hns1 rfl (dI rfl rfl) rfl (zd hns1 rfl (dI rfl rfl) rfl (zd hns1 rfl (dI rfl rfl) rfl (zd hns1 rfl (dI rfl rfl) rfl ?_))));refine gA ?_;refine dv [(0,true),(2,true),(5,true),(8,true),(9,true),(10,true),(11,true),(12,true),(13,true),(14,true),(15,true),(16,true),(17,true),(18,true),(19,true),(20,true),(21,true),(22,true),(1,false),(3,false),(4,true),(6,false),(7,true),(23,true),(24,true)] (fun hns2=>?_);refine zd hns2 rfl (zm (.int .u32 _) rfl) rfl (zd hns2 rfl (zm (.int .u32 _) rfl) rfl (zd hns2 rfl (zm (.int .u32 _) rfl) rfl (zd hns2 rfl (zm (.int .u32 _) rfl) rfl (zd hns2 rfl (aQ (sz:=1) 1 1 rfl rfl underlying288 rfl rfl rfl rfl) rfl (zd hns2 rfl (zl rfl) rfl (zd hns2 rfl (jT rfl rfl) rfl (zd hns2 rfl (zm (.int .u32 _) rfl) rfl ?_)))))))
  refine zd hns2 rfl (aQ (sz:=1) 2 2 rfl rfl underlying288 rfl rfl rfl rfl) rfl (zd hns2 rfl (zl rfl) rfl (zd hns2 rfl (jT rfl rfl) rfl (zd hns2 rfl (eR rfl rfl) rfl (zd hns2 rfl (aQ (sz:=1) 1 1 rfl rfl underlying288 rfl rfl rfl rfl) rfl (zd hns2 rfl (zl rfl) rfl (zd hns2 rfl (aQ (sz:=1) 2 2 rfl rfl underlying288 rfl rfl rfl rfl) rfl (zd hns2 rfl (zl rfl) rfl ?_)))))));refine zd hns2 rfl (jT rfl rfl) rfl (zd hns2 rfl (eR rfl rfl) rfl ?_);refine cX rfl rfl (zc (mK (k:=2) dc dc) rfl (fun x58=>⟨SB,?_⟩));refine cX rfl rfl (zc (mK (k:=13) dc dc) rfl (fun x60=>⟨SB,?_⟩));refine zd hns2 rfl (eR rfl rfl) rfl ?_;refine cX rfl rfl (zc (mK (k:=22) dc dc) rfl (fun x63=>⟨SB,?_⟩));refine zd hns2 rfl (eR rfl rfl) rfl (zd hns2 rfl (dI rfl rfl) rfl (zd hns2 rfl (za (.int .u32 _) rfl) rfl (gz (zx (zR (zq (zm (.int .u32 _) rfl) rfl (zq (zm (.int .u32 _) rfl) rfl ?_)))))));refine zq (dI rfl rfl) rfl (zq (aQ (sz:=1) 0 0 rfl rfl underlying288 rfl rfl rfl rfl) rfl ?_);refine gG ?_;refine zq (aQ (sz:=1) 1 1 rfl rfl underlying288 rfl rfl rfl rfl) rfl ?_;refine gG ?_;refine zq (aQ (sz:=1) 2 2 rfl rfl underlying288 rfl rfl rfl rfl) rfl ?_;refine gG ?_;refine zq (aQ (sz:=1) 3 3 rfl rfl underlying288 rfl rfl rfl rfl) rfl ?_;refine gG ?_;refine zq (dI rfl rfl) rfl (zq (aQ (sz:=1) 4 4 rfl rfl underlying288 rfl rfl rfl rfl) rfl ?_);refine gG ?_;refine zq (aQ (sz:=1) 5 5 rfl rfl underlying288 rfl rfl rfl rfl) rfl ?_;refine gG ?_;refine zq (aQ (sz:=1) 6 6 rfl rfl underlying288 rfl rfl rfl rfl) rfl ?_
  refine gG ?_;refine zq (ck _ underlying288 rfl rfl (OG _ _ _ _ _ _ _ _)) rfl ?_;rw[Nx,←xM];refine acR ?_;refine bW _ zA (⟨i+1,rfl,rfl,om⟩) ahY (SB)
 have hi:i=64:=om;subst hi;refine gG ?_;refine Za ?_;refine bH [14,102,103,104,105,106,107,108,109,110,111,112,113] [102] (fun us H'=>∃(j:Nat),us=[.int .i64 (j:Int)]/\aF b8 (.cells (kI l s 64).cells 288 (0,0))::aF b7 (.cells (wl (iE l 64)).toArray 333 (0,0))::aF b6 (.cells (wl (List.replicate 8 0)).toArray 288 (0,0))::aF b3 (.cells (wl (wj s (kI l s 64) j)).toArray 288 (0,0))::H=H'/\j<=8) (fun us=>match us with| .int _ i::_=>8-i.toNat|_=>0) ⟨0,rfl,rfl,om⟩ (fun w hw=>(SB w hw:St w0 (aF b8 (.cells (kI l s 64).cells 288 (0,0))::aF b7 (.cells (wl (iE l 64)).toArray 333 (0,0))::aF b6 (.cells (wl (List.replicate 8 0)).toArray 288 (0,0))::aF b3 (.cells s.cells 288 (0,0))::H) w)) ?_;rintro τ1 _ _ ⟨j,rfl,rfl,hj0⟩ _;refine gG ?_;refine yC ?_ ?_<;>intro h103 p103
 ·have hj:j<8:=om;refine gG ?_;refine dw [aF b8 (.cells (kI l s 64).cells 288 (0,0))] [(0,true),(1,true),(3,true),(4,true),(5,true),(2,false),(6,true),(7,true),(8,false)] (fun hns3=>?_);refine zd hns3 rfl (zm (.int .i64 _) rfl) rfl (zd hns3 rfl (ct (sz:=1) rfl rfl underlying288 rfl rfl om om) rfl (zd hns3 rfl (zm (.int .i64 _) rfl) rfl (zd hns3 rfl (ct (sz:=1) rfl rfl underlying288 rfl rfl om om) rfl ?_)));have cB:aw (kI l s 64).cells (0+(j:Int).toNat*1) (fm (ef (kI l s 64).list j)):=pY (l:=(kI l s 64).list) (i:=j) sm hj;refine gA ?_;have cA:=wz (l:=wj s (kI l s 64) j) (n:=0+(j:Int).toNat*1) (i:=j) sm (KN s (kI l s 64) j hj);refine cX rfl rfl (dW (zl rfl) (⟨SB,?_⟩));refine zd hns3 rfl (dI rfl rfl) rfl (zd hns3 rfl (ct (sz:=1) rfl rfl underlying288 rfl rfl om om) rfl ?_);have hput:bD (wl (wj s (kI l s 64) j)).toArray (0+(j:Int).toNat*1) (fm (ef s.list j+ef (kI l s 64).list j)) (wl (wj s (kI l s 64) (j+1))).toArray:=by have:=rG (l:=wj s (kI l s 64) j) (n:=0+(j:Int).toNat*1) (i:=j) (x:=ef s.list j+ef (kI l s 64).list j) sm (by rw[H8 _ _ _ om];exact hj);rwa [IH _ _ _ hj]at this
  refine agC ?_;refine bW _ zA (⟨j+1,rfl,rfl,om⟩) (by show 8-(j+1:Int).toNat<8-(j:Int).toNat;omega) (SB)
 have hj:j=8:=om;subst hj;rw[show(wl (wj s (kI l s 64) 8)).toArray=(compress l s).cells from rfl];refine gG ?_;refine Za ?_;refine aag ?_;exact zX () [_] results185 ⟨⟨_,rfl,ak rfl⟩,trivial⟩ rfl SB
instance N9{n:Nat}{h g:Vector UInt8 n}:bD (aX h).toArray 0 (.agg (aX g).toArray) (aX g).toArray:=by
 have:=bD.fr [] (aX h) [] (cs:=(aX h).toArray) (o:=0) (n:=n) (v:= .agg (aX g).toArray) sm rfl sm abY;simpa[Value.cells]using this
theorem Gi(s:S8)(i k:Nat)(hi:i<8)(hk:k<4):IntKind.u8.wrap ((ef s.list i>>>UInt32.ofNat (24-8*k)).toNat:Int)=((gK s)[4*i+k]'om).toNat:=by
 rw[show IntKind.u8.wrap (((ef s.list i>>>UInt32.ofNat (24-8*k)).toNat:Nat):Int)=(((ef s.list i>>>UInt32.ofNat (24-8*k)).toNat%256:Nat):Int)from by simp[IntKind.wrap,IntKind.bits,IntKind.signed]];simp only[gK,YF];rw[Ye,UInt32.toNat_shiftRight,Yj,Nat.shiftRight_eq_div_pow];rw[show(4*i+k)/4=i by omega,show(4*i+k)%4=k by omega,show(24-8*k)%2^32%32=24-8*k by omega]
attribute [local irreducible] gK
theorem Lh{w0:World}{H:List SA}{s:S8}:CT prog w0 (H) 187 [.agg s.cells] (α:=Unit) (fun _=> .agg (aX (gK s)).toArray) (fun _=>H):=by
 refine al func187 rfl ntmps187 rfl (gG ?_);refine ze rfl (aZ rfl (fun b1=>?_));refine ze rfl (an (fun b2=>gG ?_));refine ze rfl (an (fun b3=>gG ?_));refine bH [4,5,6,8,9,10,11,12,13,14,15,16,17,18,19,20,21,22,23,24,25,26,27] [8] (fun us H'=>∃(i:Nat),us=[.int .i64 (i:Int)]/\aF b3 (.cells (aX (jk (gK s) (4*i))).toArray 46 (0,0))::aF b2 (.cells (aX (zeroV 32)).toArray 46 (0,0))::aF b1 (.cells s.cells 288 (0,0))::H=H'/\i<=8) (fun us=>match us with| .int _ i::_=>8-i.toNat|_=>0) ⟨0,rfl,rfl,om⟩ (fun w hw=>by rw[show 4*0=0 from rfl,uh];exact SB w hw) ?_;rintro τ0 _ _ ⟨i,rfl,rfl,hi0⟩ _;refine gG ?_;refine yC ?_ ?_<;>intro h9 p9
 ·have hi:i<8:=om;refine gG ?_;refine zq (dq (fm (ef s.list i)) rfl rfl underlying288 om om (by exact(pY (l:=s.list) (n:=(i:Int).toNat) (i:=i) sm hi).ok)) rfl ?_;refine gG ?_;refine bH [6,12,13,14,15,16,17,18,19,20,21,22,23,24,25,26] [12] (fun us H'=>∃(k:Nat),us=[.int .i64 (k:Int)]/\aF b3 (.cells (aX (jk (gK s) (4*i+k))).toArray 46 (0,0))::aF b2 (.cells (aX (zeroV 32)).toArray 46 (0,0))::aF b1 (.cells s.cells 288 (0,0))::H=H'/\k<=4) (fun us=>match us with| .int _ i::_=>4-i.toNat|_=>0) ⟨0,rfl,rfl,om⟩ SB ?_;rintro τ1 _ _ ⟨k,rfl,rfl,hk0⟩ _;refine gG ?_;refine yC ?_ ?_<;>intro h13 p13
  ·have hk:k<4:=om;refine gG ?_
   first|refine zq (mG rfl rfl om om) rfl ?_|refine zq (gq rfl rfl) rfl ?_
   refine gA ?_
   first|refine zq (mG rfl rfl om om) rfl ?_|refine zq (gq rfl rfl) rfl ?_
   refine gA ?_;refine zq (mg (24-8*k) rfl (by refine congrArg (Value.int .i64) ?_;omega) om) rfl (zq (bI (bV rfl rfl underlying5) (congrArg (Value.int .u8) (Gi s i k hi hk))) rfl (zq (ct (sz:=1) rfl rfl underlying46 rfl rfl om om) rfl ?_));have hput:bD (aX (jk (gK s) (4*i+k))).toArray (0+(4*(i:Int)+(k:Int)).toNat*1) (.int .u8 (((gK s)[4*i+k]).toNat:Int)) (aX (jk (gK s) (4*i+(k+1)))).toArray:=by have:=J6 (h:=jk (gK s) (4*i+k)) (m:=0+(4*(i:Int)+(k:Int)).toNat*1) (i:=4*i+k) (c:=(gK s)[4*i+k]) om om;rwa [wi _ _ om]at this
   refine adD ?_;refine bW _ zA (⟨k+1,rfl,rfl,om⟩) (by show 4-(k+1:Int).toNat<4-(k:Int).toNat;omega) (SB)
  have hk:k=4:=om;subst hk;refine gG ?_;refine ZA ?_;refine bW _ zA (⟨i+1,rfl,rfl,om⟩) (by show 8-(i+1:Int).toNat<8-(i:Int).toNat;omega) (SB)
 have hi:i=8:=om;subst hi;rw[show 4*8=32 from rfl,u7];refine gG ?_;refine Za ?_;refine aag ?_;exact zX () [_] results187 ⟨⟨_,rfl,ak rfl⟩,trivial⟩ rfl SB
theorem IX{w0:World}{H:List SA}{a:Option Addr}{l:List UInt8}{c n:Nat}[hr:dT w0 H (.slice a l.length c) l](hl:l.length<=4294967000)(hn:n<=4294967000):CT prog w0 (H) 186 [.slice a l.length c,.int .i64 (n:Int)] (α:=AC) (fun y=> .slice y.a (bK l n).length y.c) (fun y=>row (.slice y.a (bK l n).length y.c) 5 1 (aE (bK l n))::H):=by
 refine al func186 rfl ntmps186 rfl (gG ?_);refine ze rfl (tb (fun a6 c6=>gG ?_));refine ze rfl (bR (sv:= .slice _ _ _) (xv:= .slice _ _ _) rfl rfl so rfl (fun a8 c8=>?_));refine ze rfl (dH (v:= .int .u8 128) rfl (fun a9 c9=>?_));refine ze rfl (gj (n:=128) (sv:= .slice _ _ _) (xv:= .slice _ _ _) rfl rfl dc so rfl (fun a10 c10=>?_));rw[Xh,show mm 128=128 from rfl];refine gG ?_;refine qa (m0:=jZ l.length) [5,11,12,13,14,15,16,17] [5] (fun us H' m=>∃(j:Nat)(a:Option Addr)(c:Nat),us=[.slice a (l++[128]++List.replicate j 0).length c]/\row (.slice a (l++[128]++List.replicate j 0).length c) 5 1 (aE (l++[128]++List.replicate j 0))::H=H'/\j<=jZ l.length/\m=jZ l.length-j) ⟨0,a10,c10,by rw[List.replicate_zero,Xn];rfl,by rw[List.replicate_zero,Xn],om,rfl⟩ SB ?_;rintro τ0 _ _ m ⟨j,a1,c1,rfl,rfl,hj,rfl⟩ _;refine gG ?_;refine Z5 ?_;refine yC ?_ ?_<;>intro h14 p14
 ·have hjz:j<jZ l.length:=by
   have hne:((l++[128]++List.replicate j 0).length%64:Nat)≠56:=om;simp only[WX,YV,XB]at hne;rcases X7 j (jZ l.length)with h|h
   · exact h
   · have:j=jZ l.length:=om
     subst this
     exfalso;apply hne;unfold jZ;omega
  refine gG ?_;refine ze rfl (dH (v:= .int .u8 0) rfl (fun a16 c16=>?_));refine ze rfl (gj (n:=0) (sv:= .slice _ _ _) (xv:= .slice _ _ _) rfl rfl dc (by have hz:jZ l.length<64:=YZ _ dc;simp;omega) rfl (fun a17 c17=>?_));rw[show mm 0=0 from rfl,W4 (l++[128]),←List.replicate_succ'];refine gG ?_;refine qc _ zA (⟨j+1,a17,c17,rfl,rfl,om,rfl⟩) om (SB)
 have hjz:j=jZ l.length:=by
  have hne:((l++[128]++List.replicate j 0).length%64:Nat)=56:=om;simp only[WX,YV,XB]at hne;unfold jZ at hj ⊢;omega
 subst hjz;refine gG ?_;refine Zv ?_;refine zq (cV rfl rfl underlying58 om om) rfl (zq (bI (gq rfl rfl) (congrArg (Value.int .u64) (show IntKind.u64.wrap ((n:Int)*8)=((8*n:Nat):Int)from by rw[wrap_u64 om om];omega))) rfl ?_);refine ze rfl (zc (eK (x:=((8*n:Nat):Int)) (n:=8) (by have hz:jZ l.length<64:=YZ _ dc;simp;omega) om) rfl (fun x22=>gG ?_));have e:fF (l++[128]++List.replicate (jZ l.length) 0) ((8*n:Nat):Int) 8=bK l n:=by rw[fF,if_pos (show fQ 8=true from rfl),XA];rfl
 simp only[e];exact zX x22 [_] results186 ⟨rfl,trivial⟩ rfl SB
theorem Ar(l:List UInt8)(k:Nat):(l.drop (64*k)).drop 64=l.drop (64*(k+1)):=by rw[X2];congr 1
theorem CP{w0:World}{H:List SA}{a:Option Addr}{l:List UInt8}{c:Nat}[hr:dT w0 H (.slice a l.length c) l](hl:l.length<=4294967000):CT prog w0 (H) 108 [.slice a l.length c] (α:=Unit) (fun _=> .agg (aX (fH l)).toArray) (fun _=>H):=by
 refine al func108 rfl ntmps108 rfl (gG ?_);refine ze rfl (an (fun b2=>gG ?_));refine ze rfl (zc (MI) rfl (fun x6=>?_));refine ze rfl (zc (JJ) rfl (fun x7=>?_));refine ze rfl (an (fun b3=>?_));refine aag ?_;refine bH [0,10,11,12,13,14,15,16,17,18,19] [0] (fun us H'=>∃(q:Nat)(a:Option Addr)(c:Nat),us=[.slice a (l.drop (64*q)).length c]/\aF b3 (.cells (jd q l S8.init).cells 288 (0,0))::aF x7 (.cells (wl Kc).toArray 333 (0,0))::aF b2 (.cells (aX (zeroV 32)).toArray 46 (0,0))::H=H'/\64*q<=l.length/\dT w0 H (.slice a (l.drop (64*q)).length c) (l.drop (64*q))) (fun us=>match us with| .slice _ n _::_=>n|_=>0) ⟨0,a,c,rfl,rfl,om,hr⟩ (fun w hw=>by rw[show jd 0 l S8.init=S8.init from rfl];exact SB w hw) ?_;rintro τ0 _ _ ⟨q,a1,c1,rfl,rfl,hq,rq⟩ _;refine gG ?_;refine yC ?_ ?_<;>intro h12 p12
 ·have hq64:64<=(l.drop (64*q)).length:=om;rw[Xe]at hq64;refine gG ?_;refine dw (aF x7 (.cells (wl Kc).toArray 333 (0,0))::H) [(1,true),(2,true),(3,true),(0,false),(4,false),(5,false)] (fun hns0=>?_);refine zd hns0 rfl (zm (.slice _ _ _) rfl) rfl (zd hns0 rfl (kg (l:=l.drop (64*q)) 64 rfl rfl so) rfl ?_);refine gA ?_;refine ahw ?_;refine cX rfl rfl (zc (Ft (l:=(l.drop (64*q)).take 64) so) rfl (fun x17=>⟨SB,?_⟩));rw[←sX q l S8.init om];refine aaE ?_;refine zq (ki (l:=l.drop (64*q)) 64 rfl rfl so) rfl ?_;have rq':=dT.M7 (h:=rq) (i:=64);rw[Ar]at rq';rw[Ar];refine gG ?_;refine bW _ zA (⟨q+1,_,_,rfl,rfl,om,rq'⟩) (by show(l.drop (64*(q+1))).length<(l.drop (64*q)).length;simp;omega) (SB)
 refine gG ?_;refine Za ?_;refine ze rfl (zc (IX (l:=l.drop (64*q)) (n:=l.length) so hl) rfl (fun x22=>gG ?_));refine bH [0,23,24,25,26,27,28,29,30,31,32] [0] (fun us H'=>∃(k:Nat)(a:Option Addr)(c:Nat),us=[.slice a ((bK (l.drop (64*q)) l.length).drop (64*k)).length c]/\aF b3 (.cells (jd k (bK (l.drop (64*q)) l.length) (jd q l S8.init)).cells 288 (0,0))::aF x7 (.cells (wl Kc).toArray 333 (0,0))::aF b2 (.cells (aX (zeroV 32)).toArray 46 (0,0))::row (.slice x22.a (bK (l.drop (64*q)) l.length).length x22.c) 5 1 (aE (bK (l.drop (64*q)) l.length))::H=H'/\64*k<=(bK (l.drop (64*q)) l.length).length/\dT w0 (row (.slice x22.a (bK (l.drop (64*q)) l.length).length x22.c) 5 1 (aE (bK (l.drop (64*q)) l.length))::H) (.slice a ((bK (l.drop (64*q)) l.length).drop (64*k)).length c) ((bK (l.drop (64*q)) l.length).drop (64*k))) (fun us=>match us with| .slice _ n _::_=>n|_=>0) ⟨0,x22.a,x22.c,rfl,rfl,om,by rw[show 64*0=0 from rfl,XI];infer_instance⟩ (fun w hw=>by rw[show jd 0 (bK (l.drop (64*q)) l.length) (jd q l S8.init)=jd q l S8.init from rfl];exact SB w hw) ?_;rintro τ1 _ _ ⟨k,a2,c2,rfl,rfl,hk,rk⟩ _;refine gG ?_;refine yC ?_ ?_<;>intro h25 p25
 ·have hk0:0<((bK (l.drop (64*q)) l.length).drop (64*k)).length:=om;rw[Xe]at hk0;have hpm:=wv (l.drop (64*q)) l.length;refine gG ?_;refine dw (aF x7 (.cells (wl Kc).toArray 333 (0,0))::row (.slice x22.a (bK (l.drop (64*q)) l.length).length x22.c) 5 1 (aE (bK (l.drop (64*q)) l.length))::H) [(1,true),(2,true),(3,true),(0,false),(4,false),(5,false)] (fun hns1=>?_);refine zd hns1 rfl (zm (.slice _ _ _) rfl) rfl (zd hns1 rfl (kg (l:=(bK (l.drop (64*q)) l.length).drop (64*k)) 64 rfl rfl so) rfl ?_);refine gA ?_;refine ahw ?_;refine cX rfl rfl (zc (Ft (l:=((bK (l.drop (64*q)) l.length).drop (64*k)).take 64) so) rfl (fun x32=>⟨SB,?_⟩));rw[←sX k _ _ om];refine aaE ?_;refine zq (ki (l:=(bK (l.drop (64*q)) l.length).drop (64*k)) 64 rfl rfl so) rfl ?_;have rk':=dT.M7 (h:=rk) (i:=64);rw[Ar]at rk';rw[Ar];refine gG ?_;refine bW _ zA (⟨k+1,_,_,rfl,rfl,om,rk'⟩) (by show((bK (l.drop (64*q)) l.length).drop (64*(k+1))).length<((bK (l.drop (64*q)) l.length).drop (64*k)).length;simp;omega) (SB)
 have hk0:¬0<((bK (l.drop (64*q)) l.length).drop (64*k)).length:=om;rw[Xe]at hk0;have hke:k=(bK (l.drop (64*q)) l.length).length/64:=om;subst hke;have hsp:=Gp l q hq;refine gG ?_;refine Za ?_;refine ze rfl (zc (Lh) rfl (fun x34=>?_));refine aag ?_;exact zX () [_] results108 ⟨⟨_,rfl,ak rfl⟩,trivial⟩ (by rw[hsp];rfl) SB
end Go.Proofs.YtmbfimckmfnnjaaGreatDoor
