/- Steps of the proof of a law. -/
import Derived.Test.YtmbfimckmfnnjaaGreatDoorQ23
set_option maxRecDepth 100000
set_option maxHeartbeats 1000000
set_option linter.unusedSimpArgs false
set_option linter.unusedVariables false
namespace Go.Proofs.YtmbfimckmfnnjaaGreatDoor
open Go.RowKit Go.Sx Go.Proofs.Tryz
section
structure NB where
 a:Option Addr
 c:Nat
 n:Nat
 r:List UInt8
 k:Nat
 ok:Bool
def Du(l:List UInt8)(y:NB):Prop:=(y.ok=true->fl l=some (y.n,y.r,y.k))/\(y.ok=false->fl l=none)
variable {l:List UInt8}
theorem Du.no{a:Option Addr}{c:Nat}(h:fl l=none):Du l ⟨a,c,0,[],0,false⟩:=⟨fun h=>acX,fun _=>h⟩
theorem Gc(h:(aq l).1≠0):fl l=none:=by unfold fl;rw[if_pos h]
theorem FX(h:(au (l.drop (aq l).2.2) 65536).1≠0):fl l=none:=by
 unfold fl
 repeat' split
 all_goals first|rfl|contradiction
theorem GD(h:l.length<(aq l).2.2+(au (l.drop (aq l).2.2) 65536).2.2+8):fl l=none:=by
 unfold fl
 repeat' split
 all_goals first|rfl|contradiction
theorem Hx(h:(fH (l.take ((aq l).2.2+(au (l.drop (aq l).2.2) 65536).2.2))).toList.take 8≠(l.drop ((aq l).2.2+(au (l.drop (aq l).2.2) 65536).2.2)).take 8):fl l=none:=by
 unfold fl
 repeat' split
 all_goals first|rfl|contradiction
theorem GA(h1:(aq l).1=0)(h2:(au (l.drop (aq l).2.2) 65536).1=0)(h3:¬l.length<(aq l).2.2+(au (l.drop (aq l).2.2) 65536).2.2+8)(h4:(fH (l.take ((aq l).2.2+(au (l.drop (aq l).2.2) 65536).2.2))).toList.take 8=(l.drop ((aq l).2.2+(au (l.drop (aq l).2.2) 65536).2.2)).take 8):fl l=some ((aq l).2.1,(au (l.drop (aq l).2.2) 65536).2.1,(aq l).2.2+(au (l.drop (aq l).2.2) 65536).2.2+8):=by
 unfold fl;rw[if_neg (fun h=>h h1),if_neg (fun h=>h h2),if_neg h3,if_neg (fun h=>h h4)]
attribute [local irreducible] fH fl aq au
theorem Mr{w0:World}{H:List SA}{a:Option Addr}{c:Nat}[hr:dT w0 H (.slice a l.length c) l](hl:l.length<=4294960000):CT prog w0 (H) 127 [.slice a l.length c] (α:=NB) (fun y=> .tuple #[.int .u64 (y.n:Int),.slice y.a y.r.length y.c,.int .i64 (y.k:Int),.bool y.ok]) (fun y=>pu (Du l y)::row (.slice y.a y.r.length y.c) 5 1 (aE y.r)::H):=by
 refine al func127 rfl ntmps127 rfl (gG ?_);refine ze rfl (zc (lD om) rfl (fun x10=>?_));refine aV (fun h10=>?_);refine gG ?_;refine aU x10.1 ?_;refine ze rfl (zc (uZ (b:=x10.2) (k:=0) om ahf) rfl (fun x13=>?_));rw[show aq (x10.2.l.drop 0)=aq l from by rw[h10];rfl];obtain⟨P,hP⟩:∃P,P=aq l:=⟨_,rfl⟩;rw[←hP];have hpb:=bT l;rw[←hP]at hpb;refine gG ?_;refine yC ?_ ?_<;>intro h17 p17<;>refine gG ?_
 ·exact zX (⟨none,0,0,[],0,false⟩:NB) [_,_,_,_] results127 ⟨rfl,rfl,rfl,rfl,trivial⟩ rfl (fun w hw=>((SB w hw:St w0 H w).cP 5).aC (Du.no (Gc (by rw[←hP];simpa using h17))))
 refine aU x10.1 ?_;refine ze rfl (zc (kN (b:=x10.2) (k:=0+P.2.2) ahf ahf (m:=65536) dc) rfl (fun x20=>?_));rw[show x10.2.l.drop (0+P.2.2)=l.drop P.2.2 from by rw[h10,XQ]];obtain⟨X,hX⟩:∃X,X=au (l.drop P.2.2) 65536:=⟨_,rfl⟩;rw[←hX];have htb:=eM (l.drop P.2.2) 65536;rw[←hX,Xe]at htb;refine gG ?_;refine yS 25 ?_ ?_<;>intro h25 p25<;>refine gG ?_
 ·refine Zc ?_;exact zX (⟨none,0,0,[],0,false⟩:NB) [_,_,_,_] results127 ⟨rfl,rfl,rfl,rfl,trivial⟩ rfl (fun w hw=>((SB w hw:St w0 H w).cP 5).aC (Du.no (FX (by rw[←hP,←hX];simpa using h25))))
 refine aU x10.1 ?_;refine gG ?_;refine ze rfl (zc (wK (b:=x10.2) (k:=(0+P.2.2+X.2.2)) ahf ahf) rfl (fun x27=>gG ?_));refine yC ?_ ?_<;>intro h29 p29
 ·refine gG ?_;exact zX (⟨none,0,0,[],0,false⟩:NB) [_,_,_,_] results127 ⟨rfl,rfl,rfl,rfl,trivial⟩ rfl (fun w hw=>((SB w hw:St w0 H w).cP 5).aC (Du.no (GD (by rw[←hP,←hX];rw[h10]at p29;omega))))
 have hlt:¬l.length<P.2.2+X.2.2+8:=by rw[h10]at p29;omega
 refine gG ?_;refine aU x10.1 ?_;refine ze rfl (zc (K2 (b:=x10.2) (k:=(0+P.2.2+X.2.2))) rfl (fun x32=>?_));refine zq (kg (0+P.2.2+X.2.2) rfl rfl om) rfl ?_;refine ze rfl (zc (CP (l:=(l.take (0+P.2.2+X.2.2))) ae5) rfl (fun x34=>?_));refine ze rfl (an (fun b8=>?_));refine aag ?_;refine dw (aF b8 (.cells (aX (fH (l.take (0+P.2.2+X.2.2)))).toArray 46 (0,0))::H) [(0,true),(1,true),(2,true),(4,true),(3,false),(5,false),(6,true),(7,true),(8,false),(9,true)] (fun hns0=>?_);refine zd hns0 rfl (bI (mH (m:=8) rfl rfl underlying46 rfl rfl dc) (show Value.slice (some ⟨b8,0,none⟩) 8 32= .slice (some ⟨b8,0,none⟩) ((fH (l.take (0+P.2.2+X.2.2))).toList.take 8).length 32 from by simp)) rfl ?_;refine gA ?_;refine km x10.1 ?_;refine cX rfl rfl (zc (K2 (b:=x10.2) (k:=(0+P.2.2+X.2.2))) rfl (fun x38=>⟨SB,?_⟩));refine km x10.1 ?_;refine cX rfl rfl (zc (K2 (b:=x10.2) (k:=(0+P.2.2+X.2.2))) rfl (fun x40=>⟨SB,?_⟩))
 first|refine zd hns0 rfl (gh rfl rfl om om) rfl ?_|refine zd hns0 rfl (bU rfl rfl) rfl ?_
 refine zd hns0 rfl (lK (0+P.2.2+X.2.2) 8 rfl rfl rfl om) rfl ?_;refine cX rfl rfl (zc (Fe (l:=(fH (l.take (0+P.2.2+X.2.2))).toList.take 8) (m:=(l.drop (0+P.2.2+X.2.2)).take 8) (hr:=dT.AQ (fH (l.take (0+P.2.2+X.2.2))) inferInstance dc dc) sm) rfl (fun x43=>⟨SB,(gA ?_)⟩));refine yC ?_ ?_<;>intro h44 p44<;>refine gG ?_
 ·exact zX (⟨none,0,0,[],0,false⟩:NB) [_,_,_,_] results127 ⟨rfl,rfl,rfl,rfl,trivial⟩ rfl (fun w hw=>((SB w hw:St w0 H w).cP 5).aC (Du.no (Hx (by rw[←hP,←hX,←XQ P.2.2];simpa using h44))))
 refine aU x10.1 ?_;refine ze rfl (zc (K2 (b:=x10.2) (k:=(0+P.2.2+X.2.2))) rfl (fun x48=>gA ?_));exact zX (⟨x20.a,x20.c,P.2.1,X.2.1,P.2.2+X.2.2+8,true⟩:NB) [_,_,_,_] results127 ⟨rfl,rfl,rfl,rfl,trivial⟩ (by first|rfl|(rw[XQ];rfl)) (fun w hw=>(SB w hw:St w0 (row (.slice x20.a X.2.1.length x20.c) 5 1 (aE X.2.1)::H) w).aC ⟨fun _=>by subst hP;subst hX;exact GA (by simpa using h17) (by simpa using h25) hlt (by rw[←XQ (aq l).2.2];simpa using h44),fun h=>acX⟩)
end
section
def fi(a:ca)(m:Nat):ca:= {a with b:=⟨a.b.a,a.b.c,a.b.l.take m⟩}
def Dw(cut:Int)(n:Nat):Int:=if (if (n:Int)<cut then(n:Int)else cut)>0 then(if (n:Int)<cut then(n:Int)else cut)else 0
theorem wZ(cut:Int)(n:Nat):0<=Dw cut n/\Dw cut n<=n:=by
 unfold Dw
 split<;>split at* <;>omega
theorem pK(a:ca):fi a a.b.l.length=a:=by
 unfold fi;rw[XE]
instance dT.fi{w0:World}{H:List SA}{a:ca}{m:Nat}[h:dT w0 H (.slice a.b.a a.b.l.length a.b.c) a.b.l]:dT w0 H (.slice (fi a m).b.a (fi a m).b.l.length (fi a m).b.c) (fi a m).b.l:=(dT.On (a:=a.b.a) (c:=a.b.c) (l:=a.b.l) (m:=m):dT w0 H (.slice a.b.a (a.b.l.take m).length a.b.c) (a.b.l.take m))
structure Ja(s:DS)(N M k kp:Nat)(dP:Int)(e1:FM)(c1:Nat)(bs:List BS):Prop where
 ic:eQ e1 c1
 mem:∀e∈e1,e.v∈bs
 sub:∀x∈s.bs,x∈bs
 len:∀x∈bs,x.l.length<=M+2000000*k
 n:e1.length<=N+k
 gQ:∀key:ByteArray,(∀a∈s.cw.take k,a.name≠key/\a.to≠key)->eu e1 key=eu s.e1 key
 same:dP= -1->kp=0->e1=s.e1/\c1=s.c1
theorem Ja.start{s:DS}{N M kp:Nat}{dP:Int}(h:s.Ok N M):Ja s N M 0 kp dP s.e1 s.c1 s.bs:=
 ⟨h.qk,h.Av,fun _ h=>h,fun x hx=>by have:=h.len x hx;omega,by have:=h.n1;omega,fun _ _=>rfl,fun _ _=>⟨rfl,rfl⟩⟩
theorem Ja.none{s:DS}{N M k kp:Nat}{dP:Int}{e1:FM}{c1:Nat}{bs:List BS}(h:Ja s N M k kp dP e1 c1 bs)(hk:k<s.cw.length):Ja s N M (k+1) kp dP e1 c1 bs:=
 ⟨h.ic,h.mem,h.sub,fun x hx=>by have:=h.len x hx;omega,by have:=h.n;omega,fun key hkey=>h.gQ key fun a ha=>hkey a ((List.take_sublist_take_left (Nat.le_succ k)).subset ha),h.same⟩
theorem Ja.step{s:DS}{N M k kp:Nat}{dP:Int}{e1:FM}{c1:Nat}{bs:List BS}(h:Ja s N M k kp dP e1 c1 bs)(hok:s.Ok N M)(hk:k<s.cw.length){x:BS}{m:Nat}(hx:x.l=kA e1 (fi s.cw[k] m))(hl:dP= -1->kp=0->false=true):Ja s N M (k+1) kp dP (oA e1 (fi s.cw[k] m) x c1) (sE e1 (fi s.cw[k] m) c1) (x::bs):=by
 have hz:=h.sub _ hok.zero;refine⟨v7 h.ic,wq h.mem hz,fun y hy=>Xa _ (h.sub y hy),fun y hy=>?_,by have h1:=h.n;have h2:=AS (es:=e1) (a:=fi s.cw[k] m) (x:=x) (c:=c1);omega,fun key hkey=>?_,fun h1 h2=>by cases hl h1 h2⟩
 · rcases Xg.1 hy with rfl|hy
   · rw[hx]
     have h1:=h.len _ (jL h.mem hz (fi s.cw[k] m).name);have h2:=hok.short _ (W1 hk);have h3:(fi s.cw[k] m).b.l.length<=s.cw[k].b.l.length:=by simp[fi];omega
     unfold kA
     split
     · rw[WX];omega
     · split
       · omega
       · simp
   · have:=h.len y hy;omega
 · have h1:=hkey s.cw[k] (by rw[fR _ _ hk];exact Xo _ (Xb.2 rfl))
   rw[IN (by exact h1.1) (by exact h1.2)];exact h.gQ key fun a ha=>hkey a ((List.take_sublist_take_left (Nat.le_succ k)).subset ha)
def D4(s:DS)(N M kp:Nat)(dP:Int)(s':DS):Prop:=
 ∃(e1:FM)(c1 q:Nat)(fp:List Nat)(bs:List BS),Ja s N M s.cw.length kp dP e1 c1 bs/\s'= {s with e1:=e1,c1:=c1,e2:=e1,c2:=c1,r2:=q,cw:=[],pa:=none,pc:=0,dE:= -1,down:=false,fp:=fp,bs:=bs}
theorem D4.ok{s s':DS}{N M kp:Nat}{dP:Int}(h:D4 s N M kp dP s')(hok:s.Ok N M):s'.Ok (N+s.cw.length) (M+2000000*s.cw.length):=by
 obtain⟨e1,c1,q,fp,bs,hc,rfl⟩:=h;exact⟨hc.ic,hc.ic,hc.mem,hc.mem,(fun _ h=>by cases h),hc.sub _ hok.zero,hc.len,(fun _ h=>by cases h),hc.n,hc.n,Xv _,hok.oB,hok.nk,by show(-1:Int)<=9223372036854775807;decide⟩
theorem xE{w0 w:World}{H:List SA}{p b3 b6:Nat}{s:DS}{a:ca}{x:BS}{e1:FM}{c1:Nat}{fp:List Nat}{bs:List BS}{pl:cz}
   (h:St w0 (aF s.r1 (cF encS BS.val e1 c1)::row (.slice x.a x.l.length x.c) 5 1 (aE x.l)::xu p s::aF s.r2 (cF encS BS.val s.e2 s.c2)::A4 s::dX fp ⟨bs,[],[]⟩::aF b3 (.cells pl.cells 60 (0,0))::H) w):St w0 (xu p s::aF s.r1 (cF encS BS.val e1 c1)::aF s.r2 (cF encS BS.val s.e2 s.c2)::A4 s::dX (bQ (.slice x.a x.l.length x.c)++fp) ⟨x::bs,[],[]⟩::aF b3 (.cells pl.cells 60 (0,0))::H) w:=by
 have h1:St w0 (row (.slice x.a x.l.length x.c) 5 1 (aE x.l)::dX fp ⟨bs,[],[]⟩::xu p s::aF s.r1 (cF encS BS.val e1 c1)::aF s.r2 (cF encS BS.val s.e2 s.c2)::A4 s::aF b3 (.cells pl.cells 60 (0,0))::H) w:=cJ.st inferInstance w h;have h2:=St.AE h1;exact cJ.st (H:=dX (bQ (.slice x.a x.l.length x.c)++fp) ⟨x::bs,[],[]⟩::xu p s::aF s.r1 (cF encS BS.val e1 c1)::aF s.r2 (cF encS BS.val s.e2 s.c2)::A4 s::aF b3 (.cells pl.cells 60 (0,0))::H) inferInstance w h2
theorem G7{w0 w:World}{H:List SA}{p x36:Nat}{s:DS}{e1:FM}{c1:Nat}{fp:List Nat}{bs:List BS}
   (h:St w0 (aF p (.cells (bu.mk s.room (some s.r1) (some x36) ⟨none,0,0⟩ (-1) false).cells 77 (0,0))::aF s.r1 (cF encS BS.val e1 c1)::aF x36 (cF encS BS.val e1 c1)::dX fp ⟨bs,[],[]⟩::H) w):St w0 (DS.H p {s with e1:=e1,c1:=c1,e2:=e1,c2:=c1,r2:=x36,cw:=[],pa:=none,pc:=0,dE:= -1,down:=false,fp:=fp,bs:=bs} H) w:=by
 have h2:=h.cT 121 4;exact cJ.st (H:=row (.slice none 0 0) 121 4 []::aF p (.cells (bu.mk s.room (some s.r1) (some x36) ⟨none,0,0⟩ (-1) false).cells 77 (0,0))::aF s.r1 (cF encS BS.val e1 c1)::aF x36 (cF encS BS.val e1 c1)::dX fp ⟨bs,[],[]⟩::H) (H':=aF p (.cells (bu.mk s.room (some s.r1) (some x36) ⟨none,0,0⟩ (-1) false).cells 77 (0,0))::aF s.r1 (cF encS BS.val e1 c1)::aF x36 (cF encS BS.val e1 c1)::row (.slice none 0 0) 121 4 []::dX fp ⟨bs,[],[]⟩::H) inferInstance w h2
abbrev kz:=ByteArray->Option (List UInt8)
def cont(es:FM):kz:=fun k=>(eu es k).map BS.l
def jY(f:kz)(a:ca):kz:=fun k=>
 if a.kind=1 then(if k=a.name then some ((f a.name).getD []++a.b.l)else f k)
 else if a.kind=2 then(if k=a.name then some a.b.l else f k)
 else if a.kind=3 then(if (f a.name).isSome=true/\a.name≠a.to then(if k=a.to then f a.name else if k=a.name then none else f k)else f k)
 else if a.kind=4 then(if k=a.name then none else f k)else f k
theorem rK(es:FM)(k:ByteArray):(gl es k).l=(cont es k).getD []:=by
 unfold gl cont;cases eu es k<;>rfl
theorem kE(es:FM)(k:ByteArray):eZ es k=(cont es k).isSome:=by
 unfold eZ cont;cases eu es k<;>rfl
theorem u6(es:FM)(k:ByteArray)(v:BS)(c:Nat)(key:ByteArray):cont (fZ es k v c) key=if key=k then some v.l else cont es key:=by
 unfold cont;by_cases h:key=k
 · subst h;rw[tM,if_pos rfl];rfl
 · rw[mC _ _ _ _ _ h,if_neg h]
theorem tB:∀(es:FM)(k:ByteArray),(es.map (·.k)).Nodup->eu (ji es k) k=none
 |[],_,_=>rfl
 |e::es,k,h=>by
   rw[Xt,YB]at h;unfold ji
   split
   · rename_i hk
     cases hg:eu es k with
     |none=>rfl
     |some v=>obtain⟨d,hd,hdk,-⟩:=lQ hg;exact absurd (Xd.2 ⟨d,hd,hdk.trans hk⟩) h.1
   · rename_i hk;rw[iX,if_neg hk];exact tB es k h.2
theorem BZ{es:FM}{c:Nat}(hg:eQ es c)(k key:ByteArray):cont (ji es k) key=if key=k then none else cont es key:=by
 unfold cont;by_cases h:key=k
 · subst h;rw[tB _ _ hg.keys,if_pos rfl];rfl
 · rw[mA _ _ _ h,if_neg h]
theorem vI{es:FM}{c:Nat}(hg:eQ es c){a:ca}{x:BS}(hx:x.l=kA es a)(c2:Nat):cont (oA es a x c2)=jY (cont es) a:=by
 funext k
 unfold oA jY;by_cases h1:a.kind=1
 · rw[if_pos (.inl h1),if_pos h1,u6]
   by_cases hk:k=a.name
   · rw[if_pos hk,if_pos hk,hx,kA,if_pos h1,rK]
   · rw[if_neg hk,if_neg hk]
 · rw[if_neg h1]
   by_cases h2:a.kind=2
   · rw[if_pos (.inr h2),if_pos h2,u6]
     by_cases hk:k=a.name
     · rw[if_pos hk,if_pos hk,hx,kA,if_neg h1,if_pos h2]
     · rw[if_neg hk,if_neg hk]
   · rw[if_neg (by rintro(h|h);exact h1 h;exact h2 h),if_neg h2]
     by_cases h3:a.kind=3
     · rw[if_pos h3,if_pos h3,kE]
       by_cases hh:(cont es a.name).isSome=true/\a.name≠a.to
       · rw[if_pos hh,if_pos hh,u6,BZ hg]
         obtain⟨l,hl⟩:=XH.1 hh.1;by_cases hk:k=a.to
         · rw[if_pos hk,if_pos hk,rK,hl];rfl
         · rw[if_neg hk,if_neg hk]
       · rw[if_neg hh,if_neg hh]
     · rw[if_neg h3,if_neg h3]
       by_cases h4:a.kind=4
       · rw[if_pos h4,if_pos h4,BZ hg]
       · rw[if_neg h4,if_neg h4]
def rN(kp:Nat)(dP cut:Int)(a:ca)(i:Nat):Option ca:=
 if (i:Int)=dP/\(a.kind=1∨a.kind=2)then some (fi a (Dw cut a.b.l.length).toNat)else if kp/2^(i%64)%2≠0 then some a else none
def MJ(kp:Nat)(dP cut:Int)(f:kz)(L:List ca):kz:=L.zipIdx.foldl (fun f x=>match rN kp dP cut x.1 x.2 with|some b=>jY f b|none=>f) f
theorem vS(kp:Nat)(dP cut:Int)(f:kz)(L:List ca)(a:ca):MJ kp dP cut f (L++[a])=match rN kp dP cut a L.length with|some b=>jY (MJ kp dP cut f L) b|none=>MJ kp dP cut f L:=by
 unfold MJ;rw[List.zipIdx_append,X0];simp
theorem J8{dP cut:Int}{kp:Nat}(h1:dP= -1)(h2:kp=0)(a:ca)(i:Nat):rN kp dP cut a i=none:=by
 subst h1 h2;unfold rN;rw[if_neg om,if_neg sm]
structure Jq(s:DS)(N M k kp:Nat)(dP cut:Int)(e1:FM)(c1:Nat)(bs:List BS):Prop where
 p:Ja s N M k kp dP e1 c1 bs
 N2:cont e1=MJ kp dP cut (cont s.e1) (s.cw.take k)
theorem Jq.start{s:DS}{N M kp:Nat}{dP cut:Int}(h:s.Ok N M):Jq s N M 0 kp dP cut s.e1 s.c1 s.bs:=⟨Ja.start h,rfl⟩
theorem Jq.none{s:DS}{N M k kp:Nat}{dP cut:Int}{e1:FM}{c1:Nat}{bs:List BS}(h:Jq s N M k kp dP cut e1 c1 bs)(hk:k<s.cw.length)(hl:rN kp dP cut s.cw[k] k=none):Jq s N M (k+1) kp dP cut e1 c1 bs:=
 ⟨h.p.none hk,by rw[Xf hk,vS,Xj,Nat.min_eq_left (Nat.le_of_lt hk),hl];exact h.N2⟩
theorem Jq.step{s:DS}{N M k kp:Nat}{dP cut:Int}{e1:FM}{c1:Nat}{bs:List BS}(h:Jq s N M k kp dP cut e1 c1 bs)(hok:s.Ok N M)(hk:k<s.cw.length){x:BS}{m:Nat}(hx:x.l=kA e1 (fi s.cw[k] m))(hl:rN kp dP cut s.cw[k] k=some (fi s.cw[k] m)):Jq s N M (k+1) kp dP cut (oA e1 (fi s.cw[k] m) x c1) (sE e1 (fi s.cw[k] m) c1) (x::bs):=
 ⟨h.p.step hok hk hx (fun h1 h2=>by rw[J8 h1 h2]at hl;cases hl),by
   rw[Xf hk,vS,Xj,Nat.min_eq_left (Nat.le_of_lt hk),hl,vI h.p.ic hx,h.N2]⟩
def lC(s:DS)(N M kp:Nat)(dP cut:Int)(s':DS):Prop:=
 ∃(e1:FM)(c1 q:Nat)(fp:List Nat)(bs:List BS),Jq s N M s.cw.length kp dP cut e1 c1 bs/\s'= {s with e1:=e1,c1:=c1,e2:=e1,c2:=c1,r2:=q,cw:=[],pa:=none,pc:=0,dE:= -1,down:=false,fp:=fp,bs:=bs}
theorem lC.Vr{s s':DS}{N M kp:Nat}{dP cut:Int}(h:lC s N M kp dP cut s'):D4 s N M kp dP s':=by
 obtain⟨e1,c1,q,fp,bs,hc,rfl⟩:=h;exact⟨e1,c1,q,fp,bs,hc.p,rfl⟩
theorem lC.sub{s s':DS}{N M kp:Nat}{dP cut:Int}(h:lC s N M kp dP cut s'):∀x∈s.bs,x∈s'.bs:=by
 obtain⟨e1,c1,q,fp,bs,hc,rfl⟩:=h;exact hc.p.sub
theorem lC.N2{s s':DS}{N M kp:Nat}{dP cut:Int}(h:lC s N M kp dP cut s'):cont s'.e2=MJ kp dP cut (cont s.e1) s.cw:=by
 obtain⟨e1,c1,q,fp,bs,hc,rfl⟩:=h;have:=hc.N2
 rwa [XE]at this
theorem Mx{w0:World}{H:List SA}{a:ca}{i:Nat}{kp:Nat}{dP cut:Int}(hi:i<=1000000)(hk:kp<18446744073709551616)[rb:dT w0 H (.slice a.b.a a.b.l.length a.b.c) a.b.l](hb:a.b.l.length<=4294967296):CT prog w0 (H) 48 [.agg a.cells,.int .i64 (i:Int),.agg (cz.mk (kp:Int) dP cut).cells] (α:=Nat×Bool) (fun y=> .tuple #[.agg (fi a y.1).cells,.bool y.2]) (fun y=>pu (rN kp dP cut a i=if y.2=true then some (fi a y.1)else none)::H):=by
 refine al func48 rfl ntmps48 rfl (gG ?_);refine ze rfl (aZ rfl (fun b3=>?_));refine ze rfl (aZ rfl (fun b5=>?_));refine ze rfl (an (fun b6=>gG ?_));refine yS 12 ?_ ?_<;>intro h12 p12<;>refine gG ?_
 ·refine yS 16 ?_ ?_<;>intro h16 p16<;>refine gG ?_
  ·refine Zc ?_;refine aen ?_;rw[show(if (if (a.b.l.length:Int)<cut then(a.b.l.length:Int)else cut)>0 then(if (a.b.l.length:Int)<cut then(a.b.l.length:Int)else cut)else 0)=Dw cut a.b.l.length from rfl];have hc:=wZ cut a.b.l.length;obtain⟨m,hm⟩:=Xl hc.1;rw[hm]at hc ⊢;have hcap:=fun w hw=>rb.cap (w:=w) hw;refine zq (kg m rfl rfl om) rfl ?_;refine gG ?_;refine aaM ?_;refine aag ?_;exact acS
  refine yC ?_ ?_<;>intro h21 p21<;>refine gG ?_
  ·refine aen ?_;rw[show(if (if (a.b.l.length:Int)<cut then(a.b.l.length:Int)else cut)>0 then(if (a.b.l.length:Int)<cut then(a.b.l.length:Int)else cut)else 0)=Dw cut a.b.l.length from rfl];have hc:=wZ cut a.b.l.length;obtain⟨m,hm⟩:=Xl hc.1;rw[hm]at hc ⊢;have hcap:=fun w hw=>rb.cap (w:=w) hw;refine zq (kg m rfl rfl om) rfl ?_;refine gG ?_;refine aaM ?_;refine aag ?_;exact acS
  refine dw (aF b3 (.cells a.cells 121 (0,0))::aF b5 (.cells (cz.mk (kp:Int) dP cut).cells 60 (0,0))::H) [(0,true),(1,true),(2,true),(3,true),(4,true),(5,true),(6,true),(7,true),(8,false),(9,true)] (fun hns0=>?_);refine zd hns0 rfl (zn rfl rfl) rfl (zd hns0 rfl (zf 0 rfl rfl) rfl (zd hns0 rfl (zl rfl) rfl (zd hns0 rfl (zm (.int .i64 _) rfl) rfl (zd hns0 rfl (bI (mc rfl rfl om) (congrArg (Value.int .i64) (mD i 64))) rfl (zd hns0 rfl (pN (i%64) rfl rfl (by show i%64<=64;omega)) rfl (zd hns0 rfl (oh (b:=1) rfl rfl rfl aiv dc) rfl ?_))))));rw[Nat.and_one_is_mod];refine gA ?_;refine aaE ?_;exact zX (a.b.l.length,decide (((kp/2^(i%64)%2:Nat):Int)≠0)) [_,_] results48 ⟨⟨_,rfl,ak rfl⟩,rfl,trivial⟩ (by rw[pK];rfl) (fun w hw=>(SB w hw:St w0 H w).aC (by
   have hno:¬((i:Int)=dP/\(a.kind=1∨a.kind=2)):=ahm;rw[rN,if_neg hno,pK];generalize kp/2^(i%64)%2=z;by_cases hb0:z=0
   · rw[if_neg om,if_neg so]
   · rw[if_pos om,if_pos so]))
 refine Zi ?_;refine dw (aF b3 (.cells a.cells 121 (0,0))::aF b5 (.cells (cz.mk (kp:Int) dP cut).cells 60 (0,0))::H) [(0,true),(1,true),(2,true),(3,true),(4,true),(5,true),(6,true),(7,true),(8,false),(9,true)] (fun hns1=>?_);refine zd hns1 rfl (zn rfl rfl) rfl (zd hns1 rfl (zf 0 rfl rfl) rfl (zd hns1 rfl (zl rfl) rfl (zd hns1 rfl (zm (.int .i64 _) rfl) rfl (zd hns1 rfl (bI (mc rfl rfl om) (congrArg (Value.int .i64) (mD i 64))) rfl (zd hns1 rfl (pN (i%64) rfl rfl (by show i%64<=64;omega)) rfl (zd hns1 rfl (oh (b:=1) rfl rfl rfl aiv dc) rfl ?_))))));rw[Nat.and_one_is_mod];refine gA ?_;refine aaE ?_;exact zX (a.b.l.length,decide (((kp/2^(i%64)%2:Nat):Int)≠0)) [_,_] results48 ⟨⟨_,rfl,ak rfl⟩,rfl,trivial⟩ (by rw[pK];rfl) (fun w hw=>(SB w hw:St w0 H w).aC (by
  have hno:¬((i:Int)=dP/\(a.kind=1∨a.kind=2)):=ahm;rw[rN,if_neg hno,pK];generalize kp/2^(i%64)%2=z;by_cases hb0:z=0
  · rw[if_neg om,if_neg so]
  · rw[if_pos om,if_pos so]))
theorem Jf{w0:World}{H:List SA}{p:Nat}{s:DS}{N M:Nat}(hok:s.Ok N M)(hN:N<=1000000)(hM:M+2000000*N<=4000000000){kp:Nat}{dP cut:Int}(hkp:kp<18446744073709551616):CT prog w0 (DS.H p s H) 13 [.pointer (some ⟨p,0,none⟩),.agg (cz.mk (kp:Int) dP cut).cells] (α:=DS) (fun _=> .tuple #[]) (fun y=>pu (lC s N M kp dP cut y)::DS.H p y H):=by
 refine al func13 rfl ntmps13 rfl (gG ?_);refine ze rfl (aZ rfl (fun b3=>gG ?_));refine Zm ?_;refine yC ?_ ?_<;>intro h9 p9
 ·
  cases h9
 refine gG ?_;have hnp:=hok.np;refine bH [4,5,6,7,15,16,17,18,19,20,21,22,23,24,25,26,27,28,29,30,31,32,33,34] [15] (fun us H'=>∃(k:Nat)(e1:FM)(c1:Nat)(fp:List Nat)(bs:List BS),us=[.int .i64 (k:Int)]/\xu p s::aF s.r1 (cF encS BS.val e1 c1)::aF s.r2 (cF encS BS.val s.e2 s.c2)::A4 s::dX fp ⟨bs,[],[]⟩::aF b3 (.cells (cz.mk (kp:Int) dP cut).cells 60 (0,0))::H=H'/\k<=s.cw.length/\(Jq s N M k kp dP cut e1 c1 bs)) (fun us=>match us with| .int _ i::_=>s.cw.length-i.toNat|_=>0) ⟨0,s.e1,s.c1,s.fp,s.bs,rfl,rfl,om,Jq.start hok⟩ SB ?_;rintro τ0 _ _ ⟨k,e1,c1,fp,bs,rfl,rfl,hk0,hc⟩ _;refine gG ?_;refine yC ?_ ?_<;>intro h16 p16
 ·have hk:k<s.cw.length:=om;refine gG ?_;refine zq (bn rfl rfl om om) rfl (zq (bI (ek 4 s.cw[k].list rfl (de _ 4 ca.ae s.cw k hk) (ca.ae _) dc) (show Value.agg s.cw[k].list.toArray=Value.agg s.cw[k].cells from rfl)) rfl ?_);refine ze rfl (an (fun b5=>gG ?_));refine aag ?_;refine ze rfl (zc (Mx (a:=s.cw[k]) (i:=k) (kp:=kp) (dP:=dP) (cut:=cut) (by have:=hok.np;omega) hkp (rb:=ju.get (ls:=bs) inferInstance (hc.p.sub _ (hok.xd _ (W1 hk)))) (by have:=hok.short _ (W1 hk);omega)) rfl (fun x24=>?_));refine aV (fun hx24=>?_);refine gG ?_;refine ze rfl (an (fun b6=>?_));refine aag ?_;refine yC ?_ ?_<;>intro h27 p27
  ·refine dw (aF b6 (.cells (fi s.cw[k] x24.1).cells 121 (0,0))::xu p s::H) [(0,true),(1,true),(2,true),(3,true),(4,true),(5,false)] (fun hns0=>?_);refine gA ?_;refine km s.r1 ?_;refine cX rfl rfl (zc (MX (r:=s.r1) (es:=e1) (c:=c1) (a:=(fi s.cw[k] x24.1)) (ro:=ju.get (ls:=bs) inferInstance (jL hc.p.mem (hc.p.sub _ hok.zero) _)) (rb:=dT.fi (h:=ju.get (ls:=bs) inferInstance (hc.p.sub _ (hok.xd _ (W1 hk))))) (by have h1:=hc.p.len _ (jL hc.p.mem (hc.p.sub _ hok.zero) (fi s.cw[k] x24.1).name);have h2:=hok.short _ (W1 hk);have h3:(fi s.cw[k] x24.1).b.l.length<=s.cw[k].b.l.length:=(by simp[fi];omega);have h4:=hok.np;omega)) rfl (fun x33=>⟨SB,?_⟩));refine im (fun hx33=>?_);refine gA ?_;exact abF
  refine gA ?_;exact abF
 obtain rfl:k=s.cw.length:=om;refine gG ?_;refine Za ?_;refine aU s.r1 (aU p ?_);refine ze rfl (zc (Bq (r:=s.r1) (es:=e1) (c:=c1)) rfl (fun x36=>gG ?_));refine aax ?_;refine abN ?_;exact zX ({s with e1:=e1,c1:=c1,e2:=e1,c2:=c1,r2:=x36,cw:=[],pa:=none,pc:=0,dE:= -1,down:=false,fp:=fp,bs:=bs}) [] results13 trivial rfl (fun w hw=>St.aC (G7 (SB w hw)) ⟨e1,c1,x36,fp,bs,hc,rfl⟩)
theorem FL{w0:World}{H:List SA}{p:Nat}{s:DS}:CT prog w0 (DS.H p s H) 14 [.pointer (some ⟨p,0,none⟩)] (α:=Unit) (fun _=> .bool s.down) (fun _=>DS.H p s H):=by
 refine al func14 rfl ntmps14 rfl ?_;refine jK ?_;refine ey ?_;refine ady ?_;refine fJ ?_;refine eS ?_;refine jK ?_;refine ey ?_;refine aiK ?_;refine cD (pz rfl rfl underlying25) rfl ?_;refine cD (cg (.bool _) rfl) rfl ?_;refine uP 5 rfl (fun h5=>?_) (fun h5=>?_)
 ·
   have p5:=h5
   try simp only[dp]at p5
   refine afI ?_;refine aiK ?_;refine afI ?_;refine cD (aN rfl) rfl ?_;refine afI ?_;refine cD (kO 5 rfl rfl) rfl ?_;refine afI ?_;refine cD (mV rfl) rfl ?_;refine cD (jy (.bool _) rfl h5 rfl) rfl ?_;refine ady ?_;refine fJ ?_;refine eS ?_;refine xY ?_;exact Fu () [_] results14 ⟨rfl,trivial⟩ rfl (cJ.st inferInstance)
 ·
   have p5:=h5
   try simp only[dp]at p5
   cases h5
end
end Go.Proofs.YtmbfimckmfnnjaaGreatDoor
