/- Steps of the proof of a law. -/
import Derived.Test.YtmbfimckmfnnjaaGreatDoorQ30
set_option maxRecDepth 100000
set_option maxHeartbeats 1000000
set_option linter.unusedSimpArgs false
set_option linter.unusedVariables false
namespace Go.Proofs.YtmbfimckmfnnjaaGreatDoor
open Go.RowKit Go.Sx Go.Proofs.Tryz
section
variable {l r:List UInt8} {nx n k at_ lp p:Nat} {bg:Bool} {out:List BS} {w0:World} {H:List SA} {pre:ByteArray} {t:LS}
theorem GZ(n:Nat)(rs:List (List UInt8))(hn:n+rs.length<18446744073709551616)(hr:∀r∈rs,r.length<=4294967000):rs.length<=(bL n rs).length:=by
 induction rs generalizing n with
 |nil=>exact Xv _
 |cons r rs ih=>
   have h1:=ih (n+1) ahK (fun x hx=>hr x (Xa _ hx));have h2:=(gx n ahK r (hr r (XF ..))).2;simp only[bL,WX,Xq];omega
attribute [local irreducible] fH aq au
theorem j6(h:fl l=some (n,r,k)):8<=k/\k<=l.length/\n<18446744073709551616/\r.length<=l.length:=by
 unfold fl at h;have hb:=bT l;have ht:=eM (l.drop (aq l).2.2) 65536;rw[Xe]at ht
 split at h
 · cases h
 · split at h
   · cases h
   · split at h
     · cases h
     · split at h
       · cases h
       · rename_i h3 _
         injection h with h
         injection h with e1 e2
         injection e2 with e2 e3
         rw[←e1,←e2,←e3];omega
def iO(l:List UInt8)(bg:Bool)(nx:Nat):Option (Nat×List UInt8×Nat):=match fl l with
 |none=>none
 |some (n,r,k)=>if (bg=true/\n≠nx)∨n=0∨n=18446744073709551615 then none else some (n,r,k)
theorem k3(h:iO l bg nx=some (n,r,k)):fl l=some (n,r,k)/\¬((bg=true/\n≠nx)∨n=0∨n=18446744073709551615):=by
 unfold iO at h
 split at h
 · cases h
 · rename_i n' r' k' hr
   split at h
   · cases h
   · rename_i hc
     injection h with h
     injection h with e1 e2
     injection e2 with e2 e3
     subst e1 e2 e3;exact⟨hr,hc⟩
theorem lY(h:fl l=none):iO l bg nx=none:=by unfold iO;rw[h]
theorem eU(h:fl l=some (n,r,k))(hc:(bg=true/\n≠nx)∨n=0∨n=18446744073709551615):iO l bg nx=none:=by unfold iO;rw[h];exact if_pos hc
theorem yv(h:fl l=some (n,r,k))(hc:¬((bg=true/\n≠nx)∨n=0∨n=18446744073709551615)):iO l bg nx=some (n,r,k):=by unfold iO;rw[h];exact if_neg hc
theorem nH(h:iO l bg nx=none):∀f,kv f l bg nx=([],0,bg,nx)
 |0=>rfl
 |f+1=>by
   unfold kv;unfold iO at h
   split
   · rfl
   · rename_i n r k hr
     rw[hr]at h;simp only at h
     split at h
     · rename_i hc;rw[if_pos hc]
     · cases h
theorem nZ(h:iO l bg nx=some (n,r,k))(f:Nat):kv (f+1) l bg nx=(r::(kv f (l.drop k) true (n+1)).1,k+(kv f (l.drop k) true (n+1)).2.1,(kv f (l.drop k) true (n+1)).2.2):=by
 obtain⟨h1,h2⟩:=k3 h
 conv=>lhs;unfold kv
 rw[h1];simp only;rw[if_neg h2]
theorem vQ:∀(f g:Nat)(l:List UInt8)(bg:Bool)(nx:Nat),l.length<f->l.length<g->kv f l bg nx=kv g l bg nx
 |0,_,_,_,_,h,_=>by omega
 |_,0,_,_,_,_,h=>by omega
 |f+1,g+1,l,bg,nx,hf,hg=>by
   cases h:iO l bg nx with
   |none=>rw[nH h,nH h]
   |some x=>
     obtain⟨n,r,k⟩:=x;have hk:=j6 (k3 h).1;rw[nZ h,nZ h,vQ f g (l.drop k) true (n+1) afB afB]
def eh(l:List UInt8)(bg:Bool)(nx:Nat):List (List UInt8)×Nat×Bool×Nat:=kv (l.length+1) l bg nx
theorem EB(h:iO l bg nx=none):eh l bg nx=([],0,bg,nx):=nH h _
theorem Ek(h:iO l bg nx=some (n,r,k)):eh l bg nx=(r::(eh (l.drop k) true (n+1)).1,k+(eh (l.drop k) true (n+1)).2.1,(eh (l.drop k) true (n+1)).2.2):=by
 have hk:=j6 (k3 h).1;unfold eh;rw[nZ h,vQ l.length ((l.drop k).length+1) (l.drop k) true (n+1) afB om]
theorem nj:fl []=none:=by
 cases h:fl []with
 |none=>rfl
 |some x=>
   obtain⟨n,r,k⟩:=x;have:=j6 h;simp at this;omega
theorem tP:∀(f:Nat)(l:List UInt8)(bg:Bool)(nx:Nat),l.length<f->nx<18446744073709551616->(kv f l bg nx).2.1<=l.length/\(kv f l bg nx).2.2.2<18446744073709551616/\(kv f l bg nx).1.length<=l.length/\∀r∈(kv f l bg nx).1,r.length<=l.length
 |0,_,_,_,h,_=>by omega
 |f+1,l,bg,nx,hf,hn=>by
   cases h:iO l bg nx with
   |none=>rw[nH h];exact⟨Xv _,hn,Xv _,fun _ h=>by cases h⟩
   |some x=>
     obtain⟨n,r,k⟩:=x;obtain⟨hr,hc⟩:=k3 h;have hk:=j6 hr;have hd:(l.drop k).length=l.length-k:=Xe ..;obtain⟨i1,i2,i3,i4⟩:=tP f (l.drop k) true (n+1) om (by
       have:n≠18446744073709551615:=fun e=>hc (.inr (.inr e));omega)
     rw[nZ h];refine⟨by show k+_<=_;omega,i2,by show(_::_).length<=_;rw[Xq];omega,fun x hx=>?_⟩;rcases Xg.1 hx with rfl|hx
     · exact hk.2.2.2
     · have:=i4 x hx;omega
theorem tE(l:List UInt8)(bg:Bool)(hn:nx<18446744073709551616):(eh l bg nx).2.1<=l.length/\(eh l bg nx).2.2.2<18446744073709551616/\(eh l bg nx).1.length<=l.length/\∀r∈(eh l bg nx).1,r.length<=l.length:=
 tP _ l bg nx (Nat.lt_succ_self _) hn
theorem vF(rs:List (List UInt8))(n:Nat)(bg:Bool)(nx:Nat)(t:List UInt8)(hn:1<=n)(h2:n+rs.length<18446744073709551615)(hr:∀r∈rs,r.length<=65536)(hb:bg=true->nx=n)(ht:fl t=none):eh (bL n rs++t) bg nx=(rs,(bL n rs).length,if rs.length=0 then bg else true,if rs.length=0 then nx else n+rs.length):=by
 have hl:rs.length<=(bL n rs).length:=GZ n rs om (fun r h=>by have:=hr r h;omega);unfold eh;exact wJ rs _ n bg nx t (by rw[WX];omega) hn h2 hr hb ht
structure sF where
 ok:Bool
 at_:Nat
 a:Option Addr
 c:Nat
 out:List BS
 fo:List Nat
 nx:Nat
 bg:Bool
def Ps(l:List UInt8)(at_:Nat)(t:LS)(out:List BS)(y:sF):Prop:=
 (y.ok=false/\iO (l.drop at_) t.bg t.nx=none/\y.at_=at_/\y.out=out/\y.nx=t.nx/\y.bg=t.bg)∨
 (y.ok=true/\∃(n k:Nat)(b:BS),iO (l.drop at_) t.bg t.nx=some (n,b.l,k)/\y.at_=at_+k/\y.out=out++[b]/\y.nx=n+1/\y.bg=true)
theorem GJ{bb:BS}{bg0:Bool}{nx0:Nat}(hs:eh l bg0 nx0=(out.map BS.l++(eh (l.drop at_) bg nx).1,at_+(eh (l.drop at_) bg nx).2.1,(eh (l.drop at_) bg nx).2.2))(hst:iO (l.drop at_) bg nx=some (n,bb.l,k)):eh l bg0 nx0=((out++[bb]).map BS.l++(eh (l.drop (at_+k)) true (n+1)).1,at_+k+(eh (l.drop (at_+k)) true (n+1)).2.1,(eh (l.drop (at_+k)) true (n+1)).2.2):=by
 rw[hs,Ek hst,X2];simp[X9]
theorem yb{bg0:Bool}{nx0:Nat}(hs:eh l bg0 nx0=(out.map BS.l++(eh (l.drop at_) bg nx).1,at_+(eh (l.drop at_) bg nx).2.1,(eh (l.drop at_) bg nx).2.2))(hst:iO (l.drop at_) bg nx=none):eh l bg0 nx0=(out.map BS.l,at_,bg,nx):=by
 rw[hs,EB hst];simp
theorem EJ(l:List UInt8)(bg:Bool)(nx:Nat):eh l bg nx=(([]:List BS).map BS.l++(eh (l.drop 0) bg nx).1,0+(eh (l.drop 0) bg nx).2.1,(eh (l.drop 0) bg nx).2.2):=by
 rw[XI,XQ];rfl
structure OA where
 a:Option Addr
 c:Nat
 out:List BS
 fo:List Nat
 at_:Nat
 nx:Nat
 bg:Bool
attribute [local irreducible] eh iO fl bL cv
theorem HU{q0 q1 q2 q3:Nat}{bv:BS}[rb:dT w0 H (.slice bv.a bv.l.length bv.c) bv.l]{oa:Option Addr}{oc:Nat}{fo:List Nat}(hl:bv.l.length<=4000000000)(hat:at_<=bv.l.length)(hol:out.length<=4000000000):CT prog w0 (aF q0 (.cells #[.slice bv.a bv.l.length bv.c] 47 (0,0))::aF q1 (.cells #[.int .i64 (at_:Int)] 3 (0,0))::aF q2 (.cells #[.pointer (some ⟨lp,0,none⟩)] 82 (0,0))::aF q3 (.cells #[.slice oa (out).length oc] 48 (0,0))::row (.slice oa (out).length oc) 47 1 ((out).map BS.val)::ep fo out::bm lp p pre t::H) 126 [.pointer (some ⟨q0,0,none⟩),.pointer (some ⟨q1,0,none⟩),.pointer (some ⟨q2,0,none⟩),.pointer (some ⟨q3,0,none⟩)] (α:=sF) (fun y=> .bool y.ok) (fun y=>pu (Ps bv.l at_ t out y)::aF q0 (.cells #[.slice bv.a bv.l.length bv.c] 47 (0,0))::aF q1 (.cells #[.int .i64 ((y.at_:Nat):Int)] 3 (0,0))::aF q2 (.cells #[.pointer (some ⟨lp,0,none⟩)] 82 (0,0))::aF q3 (.cells #[.slice y.a (y.out).length y.c] 48 (0,0))::row (.slice y.a (y.out).length y.c) 47 1 ((y.out).map BS.val)::ep y.fo (y.out)::bm lp p pre (⟨t.ga,t.gc,t.av,t.gi,y.nx,y.bg⟩:LS)::H):=by
 refine al func126 rfl ntmps126 rfl (gG ?_);refine zq (ki at_ rfl rfl om) rfl ?_;refine ze rfl (zc (Mr (l:=bv.l.drop at_) afB) rfl (fun x13=>?_));refine aV (fun h13=>?_);refine gG ?_;refine yS 20 ?_ ?_<;>intro h20 p20<;>refine gG ?_
 ·refine ack ?_;exact aan
 refine yS 25 ?_ ?_<;>intro h25 p25<;>refine gG ?_
 ·refine yS 34 ?_ ?_<;>intro h34 p34<;>refine gG ?_
  ·refine ack ?_;exact aan
  refine yS 38 ?_ ?_<;>intro h38 p38<;>refine gG ?_
  ·refine ack ?_;exact aan
  refine yC ?_ ?_<;>intro h41 p41
  ·refine af0 ?_;exact aan
  have hrd:=h13.1 abc;have hk4:=j6 hrd;have hst:iO (bv.l.drop at_) t.bg t.nx=some (x13.n,x13.r,x13.k):=yv hrd af5;have hnm:x13.n<18446744073709551615:=om;refine gG ?_;refine ze rfl (dH (v:= .slice _ _ _) rfl (fun a44 c44=>?_));refine ze rfl (ot (sv:= .slice _ _ _) (xv:= .slice _ _ _) (⟨x13.a,x13.c,x13.r⟩:BS) rfl rfl om rfl (fun a45 c45=>?_));refine ail ?_;refine afn ?_;have hkk:at_+x13.k<=bv.l.length:=by have:=hk4.2.1;rw[Xe]at this;omega
  refine gA ?_;rw[show(at_:Int)+(x13.k:Int)=((at_+x13.k:Nat):Int)from rfl];refine aax ?_;refine jC (aF q2 (.cells #[.pointer (some ⟨lp,0,none⟩)] 82 (0,0))::H) kr SB (bz (i:=0) kr rfl kr kr (zl rfl) rfl (bz (i:=1) kr rfl kr kr (zl rfl) rfl (bz (i:=2) kr rfl kr kr (zm (.int .u64 _) rfl) rfl (bz (i:=3) kr rfl kr kr (bI (bU rfl rfl) (congrArg (Value.int .u64) (show IntKind.u64.wrap ((x13.n:Int)+1)=((x13.n+1:Nat):Int)from wrap_u64 om om))) rfl (bz (i:=4) kr rfl kr kr (aN rfl) rfl (bz (i:=5) kr rfl kr kr (zf 4 rfl rfl) rfl ?_))))));refine adJ ?_;refine ag2 ?_;refine aeN ?_;refine adl ?_;refine ahr ?_;refine ZC ?_;exact zX (⟨true,at_+x13.k,a45,c45,out++[(⟨x13.a,x13.c,x13.r⟩:BS)],(bQ (.slice x13.a x13.r.length x13.c)++fo),x13.n+1,true⟩:sF) [_] results126 ⟨rfl,trivial⟩ rfl (fun w hw=>by
   have h1:St w0 (row (BS.val (⟨x13.a,x13.c,x13.r⟩:BS)) 5 1 (aE (BS.l (⟨x13.a,x13.c,x13.r⟩:BS)))::ep fo out::aF q0 (.cells #[.slice bv.a bv.l.length bv.c] 47 (0,0))::aF q1 (.cells #[.int .i64 ((at_+x13.k:Nat):Int)] 3 (0,0))::aF q2 (.cells #[.pointer (some ⟨lp,0,none⟩)] 82 (0,0))::aF q3 (.cells #[.slice a45 (out++[(⟨x13.a,x13.c,x13.r⟩:BS)]).length c45] 48 (0,0))::row (.slice a45 (out++[(⟨x13.a,x13.c,x13.r⟩:BS)]).length c45) 47 1 ((out++[(⟨x13.a,x13.c,x13.r⟩:BS)]).map BS.val)::bm lp p pre (⟨t.ga,t.gc,t.av,t.gi,(x13.n+1),true⟩:LS)::H) w:=SB w hw;have h2:=h1.Ag;exact(cJ.st inferInstance w h2:St w0 (aF q0 (.cells #[.slice bv.a bv.l.length bv.c] 47 (0,0))::aF q1 (.cells #[.int .i64 ((at_+x13.k:Nat):Int)] 3 (0,0))::aF q2 (.cells #[.pointer (some ⟨lp,0,none⟩)] 82 (0,0))::aF q3 (.cells #[.slice a45 (out++[(⟨x13.a,x13.c,x13.r⟩:BS)]).length c45] 48 (0,0))::row (.slice a45 (out++[(⟨x13.a,x13.c,x13.r⟩:BS)]).length c45) 47 1 ((out++[(⟨x13.a,x13.c,x13.r⟩:BS)]).map BS.val)::ep (bQ (.slice x13.a x13.r.length x13.c)++fo) (out++[(⟨x13.a,x13.c,x13.r⟩:BS)])::bm lp p pre (⟨t.ga,t.gc,t.av,t.gi,(x13.n+1),true⟩:LS)::H) w).aC (.inr ⟨rfl,x13.n,x13.k,(⟨x13.a,x13.c,x13.r⟩:BS),hst,rfl,rfl,rfl,rfl⟩))
 refine yS 38 ?_ ?_<;>intro h38 p38<;>refine gG ?_
 ·refine ack ?_;exact aan
 refine yC ?_ ?_<;>intro h41 p41
 ·refine af0 ?_;exact aan
 have hrd:=h13.1 abc;have hk4:=j6 hrd;have hst:iO (bv.l.drop at_) t.bg t.nx=some (x13.n,x13.r,x13.k):=yv hrd af5;have hnm:x13.n<18446744073709551615:=om;refine gG ?_;refine ze rfl (dH (v:= .slice _ _ _) rfl (fun a44 c44=>?_));refine ze rfl (ot (sv:= .slice _ _ _) (xv:= .slice _ _ _) (⟨x13.a,x13.c,x13.r⟩:BS) rfl rfl om rfl (fun a45 c45=>?_));refine ail ?_;refine afn ?_;have hkk:at_+x13.k<=bv.l.length:=by have:=hk4.2.1;rw[Xe]at this;omega
 refine gA ?_;rw[show(at_:Int)+(x13.k:Int)=((at_+x13.k:Nat):Int)from rfl];refine aax ?_;refine jC (aF q2 (.cells #[.pointer (some ⟨lp,0,none⟩)] 82 (0,0))::H) kr SB (bz (i:=0) kr rfl kr kr (zl rfl) rfl (bz (i:=1) kr rfl kr kr (zl rfl) rfl (bz (i:=2) kr rfl kr kr (zm (.int .u64 _) rfl) rfl (bz (i:=3) kr rfl kr kr (bI (bU rfl rfl) (congrArg (Value.int .u64) (show IntKind.u64.wrap ((x13.n:Int)+1)=((x13.n+1:Nat):Int)from wrap_u64 om om))) rfl (bz (i:=4) kr rfl kr kr (aN rfl) rfl (bz (i:=5) kr rfl kr kr (zf 4 rfl rfl) rfl ?_))))));refine adJ ?_;refine ag2 ?_;refine aeN ?_;refine adl ?_;refine ahr ?_;refine ZC ?_;exact zX (⟨true,at_+x13.k,a45,c45,out++[(⟨x13.a,x13.c,x13.r⟩:BS)],(bQ (.slice x13.a x13.r.length x13.c)++fo),x13.n+1,true⟩:sF) [_] results126 ⟨rfl,trivial⟩ rfl (fun w hw=>by
  have h1:St w0 (row (BS.val (⟨x13.a,x13.c,x13.r⟩:BS)) 5 1 (aE (BS.l (⟨x13.a,x13.c,x13.r⟩:BS)))::ep fo out::aF q0 (.cells #[.slice bv.a bv.l.length bv.c] 47 (0,0))::aF q1 (.cells #[.int .i64 ((at_+x13.k:Nat):Int)] 3 (0,0))::aF q2 (.cells #[.pointer (some ⟨lp,0,none⟩)] 82 (0,0))::aF q3 (.cells #[.slice a45 (out++[(⟨x13.a,x13.c,x13.r⟩:BS)]).length c45] 48 (0,0))::row (.slice a45 (out++[(⟨x13.a,x13.c,x13.r⟩:BS)]).length c45) 47 1 ((out++[(⟨x13.a,x13.c,x13.r⟩:BS)]).map BS.val)::bm lp p pre (⟨t.ga,t.gc,t.av,t.gi,(x13.n+1),true⟩:LS)::H) w:=SB w hw;have h2:=h1.Ag;exact(cJ.st inferInstance w h2:St w0 (aF q0 (.cells #[.slice bv.a bv.l.length bv.c] 47 (0,0))::aF q1 (.cells #[.int .i64 ((at_+x13.k:Nat):Int)] 3 (0,0))::aF q2 (.cells #[.pointer (some ⟨lp,0,none⟩)] 82 (0,0))::aF q3 (.cells #[.slice a45 (out++[(⟨x13.a,x13.c,x13.r⟩:BS)]).length c45] 48 (0,0))::row (.slice a45 (out++[(⟨x13.a,x13.c,x13.r⟩:BS)]).length c45) 47 1 ((out++[(⟨x13.a,x13.c,x13.r⟩:BS)]).map BS.val)::ep (bQ (.slice x13.a x13.r.length x13.c)++fo) (out++[(⟨x13.a,x13.c,x13.r⟩:BS)])::bm lp p pre (⟨t.ga,t.gc,t.av,t.gi,(x13.n+1),true⟩:LS)::H) w).aC (.inr ⟨rfl,x13.n,x13.k,(⟨x13.a,x13.c,x13.r⟩:BS),hst,rfl,rfl,rfl,rfl⟩))
theorem BE{w:World}{b2 b3 b6 b7:Nat}{b:BS}
   (hw:St w0 (aF b3 (.cells #[.slice b.a b.l.length b.c] 47 (0,0))::aF b7 (.cells #[.int .i64 0] 3 (0,0))::aF b2 (.cells #[.pointer (some ⟨lp,0,none⟩)] 82 (0,0))::aF b6 (.cells #[.slice none 0 0] 48 (0,0))::bm lp p pre t::H) w):St w0 (aF b3 (.cells #[.slice b.a b.l.length b.c] 47 (0,0))::aF b7 (.cells #[.int .i64 ((0:Nat):Int)] 3 (0,0))::aF b2 (.cells #[.pointer (some ⟨lp,0,none⟩)] 82 (0,0))::aF b6 (.cells #[.slice none ([]:List BS).length 0] 48 (0,0))::row (.slice none ([]:List BS).length 0) 47 1 (([]:List BS).map BS.val)::ep [] ([]:List BS)::bm lp p pre (⟨t.ga,t.gc,t.av,t.gi,t.nx,t.bg⟩:LS)::H) w:=by
 have h1:=(hw.pO).cT 47 1;exact cJ.st (H:=row (.slice none 0 0) 47 1 []::ep [] []::aF b3 (.cells #[.slice b.a b.l.length b.c] 47 (0,0))::aF b7 (.cells #[.int .i64 0] 3 (0,0))::aF b2 (.cells #[.pointer (some ⟨lp,0,none⟩)] 82 (0,0))::aF b6 (.cells #[.slice none 0 0] 48 (0,0))::bm lp p pre t::H) (H':=aF b3 (.cells #[.slice b.a b.l.length b.c] 47 (0,0))::aF b7 (.cells #[.int .i64 0] 3 (0,0))::aF b2 (.cells #[.pointer (some ⟨lp,0,none⟩)] 82 (0,0))::aF b6 (.cells #[.slice none 0 0] 48 (0,0))::row (.slice none 0 0) 47 1 []::ep [] []::bm lp p pre t::H) inferInstance w h1
theorem Mm{b:BS}[rb:dT w0 H (.slice b.a b.l.length b.c) b.l](hbl:b.l.length<=4000000000)(hnx:t.nx<18446744073709551616):CT prog w0 (bm lp p pre t::H) 71 [.pointer (some ⟨lp,0,none⟩),.slice b.a b.l.length b.c] (α:=OA) (fun y=> .tuple #[.slice y.a y.out.length y.c,.int .i64 (y.at_:Int)]) (fun y=>pu (eh b.l t.bg t.nx=(y.out.map BS.l,y.at_,y.bg,y.nx))::row (.slice y.a (y.out).length y.c) 47 1 ((y.out).map BS.val)::dX y.fo ⟨y.out,[],[]⟩::bm lp p pre (⟨t.ga,t.gc,t.av,t.gi,y.nx,y.bg⟩:LS)::H):=by
 refine al func71 rfl ntmps71 rfl (gG ?_);refine ze rfl (z6 (.pointer _) rfl (fun b2=>?_));refine ze rfl (z6 (.slice _ _ _) rfl (fun b3=>gG ?_));refine ze rfl (sR (fun b6=>gG ?_));refine ze rfl (sR (fun b7=>?_));refine aax ?_;refine zq (ub (args:=[.pointer _,.pointer _,.pointer _,.pointer _]) rfl) rfl ?_;refine gG ?_;refine qa (m0:=b.l.length) [10,11,12,13,14,15,16,17] [] (fun us H' m=>∃(at_:Nat)(oa:Option Addr)(oc:Nat)(out:List BS)(fo:List Nat)(nx:Nat)(bg:Bool),us=[]/\aF b3 (.cells #[.slice b.a b.l.length b.c] 47 (0,0))::aF b7 (.cells #[.int .i64 ((at_:Nat):Int)] 3 (0,0))::aF b2 (.cells #[.pointer (some ⟨lp,0,none⟩)] 82 (0,0))::aF b6 (.cells #[.slice oa (out).length oc] 48 (0,0))::row (.slice oa (out).length oc) 47 1 ((out).map BS.val)::ep fo out::bm lp p pre (⟨t.ga,t.gc,t.av,t.gi,nx,bg⟩:LS)::H=H'/\m=b.l.length-at_/\at_<=b.l.length/\out.length<=at_/\nx<18446744073709551616/\eh b.l t.bg t.nx=(out.map BS.l++(eh (b.l.drop at_) bg nx).1,at_+(eh (b.l.drop at_) bg nx).2.1,(eh (b.l.drop at_) bg nx).2.2)) ⟨0,none,0,[],[],t.nx,t.bg,rfl,rfl,om,om,W8 _,hnx,EJ _ _ _⟩ (fun w hw=>BE (SB w hw)) ?_;rintro τ0 _ _ m ⟨at_,oa,oc,out,fo,nx,bg,rfl,rfl,rfl,hat,hol,hnx2,hs⟩ _;refine gG ?_;refine yS 14 ?_ ?_<;>intro h14 p14
 ·refine zt rfl rfl h14 (zq (zm _ rfl) rfl ?_);refine aac ?_;refine ze rfl (uL (argv:=[]) (caps:=[_,_,_,_]) (HU (q0:=b3) (q1:=b7) (q2:=b2) (q3:=b6) (t:=(⟨t.ga,t.gc,t.av,t.gi,nx,bg⟩:LS)) (bv:=b) (at_:=at_) (out:=out) (fo:=fo) hbl hat om) rfl rfl (fun x16=>?_));refine aV (fun h16=>?_);refine gG ?_;refine yC ?_ ?_<;>intro h17 p17
  ·obtain⟨hf,-⟩|⟨-,n,k,bb,hst,e1,e2,e3,e4⟩:=h16
   · rw[hf]at h17;cases h17
   replace hst:iO (b.l.drop at_) bg nx=some (n,bb.l,k):=hst
   have hk4:=j6 (k3 hst).1;rw[Xe]at hk4;have hnm:n≠18446744073709551615:=fun h=>(k3 hst).2 (.inr (.inr h));have hnext:=GJ hs hst;refine gG ?_;refine qc _ zA (⟨x16.at_,x16.a,x16.c,x16.out,x16.fo,x16.nx,x16.bg,rfl,rfl,rfl,by rw[e1];omega,by rw[e1,e2,WX,XB];omega,by rw[e3];omega,by rw[e1,e2,e3,e4];exact hnext⟩) (by rw[e1];omega) (SB)
  obtain⟨-,hst,e1,e2,e3,e4⟩|⟨hf,-⟩:=h16
  rotate_left
  · rw[hf]at h17;cases h17
  replace hst:iO (b.l.drop at_) bg nx=none:=hst
  have hfin:=yb hs hst;rw[e1,e2,e3,e4];refine gG ?_;refine Zv ?_;refine dv [(0,true),(1,true),(2,true),(3,true)] (fun hns0=>?_);refine zd hns0 rfl (zl rfl) rfl (zd hns0 rfl (zl rfl) rfl (zd hns0 rfl (za (.slice _ _ _) rfl) rfl (zd hns0 rfl (za (.int .i64 _) rfl) rfl (gz (zx (zQ ?_))))))
  first
  |exact zX (⟨oa,oc,out,fo,at_,nx,bg⟩:OA) [_,_] results71 ⟨rfl,rfl,trivial⟩ rfl (fun w hw=>by
   have h1:St w0 (ep fo out::row (.slice oa (out).length oc) 47 1 ((out).map BS.val)::bm lp p pre (⟨t.ga,t.gc,t.av,t.gi,nx,bg⟩:LS)::H) w:=SB w hw;exact(cJ.st inferInstance w (St.rD h1):St w0 (row (.slice oa (out).length oc) 47 1 ((out).map BS.val)::dX fo ⟨out,[],[]⟩::bm lp p pre (⟨t.ga,t.gc,t.av,t.gi,nx,bg⟩:LS)::H) w).aC hfin)
  |exact zX (⟨x16.a,x16.c,out,x16.fo,at_,nx,bg⟩:OA) [_,_] results71 ⟨rfl,rfl,trivial⟩ rfl (fun w hw=>by
   have h1:St w0 (ep x16.fo out::row (.slice x16.a (out).length x16.c) 47 1 ((out).map BS.val)::bm lp p pre (⟨t.ga,t.gc,t.av,t.gi,nx,bg⟩:LS)::H) w:=SB w hw;exact(cJ.st inferInstance w (St.rD h1):St w0 (row (.slice x16.a (out).length x16.c) 47 1 ((out).map BS.val)::dX x16.fo ⟨out,[],[]⟩::bm lp p pre (⟨t.ga,t.gc,t.av,t.gi,nx,bg⟩:LS)::H) w).aC hfin)
 have hend:iO (b.l.drop at_) bg nx=none:=lY (by rw[List.drop_eq_nil_of_le om];exact nj);have hfin:=yb hs hend;refine zp rfl rfl h14 rfl ?_;refine aac ?_;refine Zi ?_;refine Zv ?_;refine dv [(0,true),(1,true),(2,true),(3,true)] (fun hns1=>?_);refine gA ?_
 first
 |exact zX (⟨oa,oc,out,fo,at_,nx,bg⟩:OA) [_,_] results71 ⟨rfl,rfl,trivial⟩ rfl (fun w hw=>by
  have h1:St w0 (ep fo out::row (.slice oa (out).length oc) 47 1 ((out).map BS.val)::bm lp p pre (⟨t.ga,t.gc,t.av,t.gi,nx,bg⟩:LS)::H) w:=SB w hw;exact(cJ.st inferInstance w (St.rD h1):St w0 (row (.slice oa (out).length oc) 47 1 ((out).map BS.val)::dX fo ⟨out,[],[]⟩::bm lp p pre (⟨t.ga,t.gc,t.av,t.gi,nx,bg⟩:LS)::H) w).aC hfin)
 |exact zX (⟨x16.a,x16.c,out,x16.fo,at_,nx,bg⟩:OA) [_,_] results71 ⟨rfl,rfl,trivial⟩ rfl (fun w hw=>by
  have h1:St w0 (ep x16.fo out::row (.slice x16.a (out).length x16.c) 47 1 ((out).map BS.val)::bm lp p pre (⟨t.ga,t.gc,t.av,t.gi,nx,bg⟩:LS)::H) w:=SB w hw;exact(cJ.st inferInstance w (St.rD h1):St w0 (row (.slice x16.a (out).length x16.c) 47 1 ((out).map BS.val)::dX x16.fo ⟨out,[],[]⟩::bm lp p pre (⟨t.ga,t.gc,t.av,t.gi,nx,bg⟩:LS)::H) w).aC hfin)
end
section
open Go.Sort Go.Shelf
variable {w0:World} {H:List SA}
theorem xq{P:Program}{t:TypeId}{ms:Array (String×TypeId)}(k:Nat)(ht:P.underlying t=some (.interface ms))(w:World):(Op.equalIn (k+1) t .nilIface .nilIface).run P w= .ok true w:=by simp[Op.equalIn,run_underlying ht]
theorem D1{P:Program}{σ:Env}{d:Option Nat}{ty:TypeId}{pos:String}{aft:Array Edge}{g:Option (Nat×Bool)}{t t':TypeId}{x:Operand}{ms:Array (String×TypeId)}(hx:ev σ x= .nilIface)(ht:P.underlying t=some (.interface ms)):Qt P w0 H σ ⟨d,.binOp .neq t x (.const .nilIface) t',ty,pos,aft,g⟩ (.bool false):=fun w _=>by
 have hy:ev σ (.const .nilIface)= .nilIface:=rfl;have h':(Op.equalIn Op.maxDepth t .nilIface .nilIface).run P w= .ok true w:=xq 9999 ht w;simp[execOp,hx,hy,eqGuard,binOp,Op.equal,h']
theorem Gz(cur:Array Value)(ts:List Int)(h:ts.length<=cur.size):(Go.Sort.putCells (Value.int .i64) 0 ts.toArray cur).toList.take ts.length=ts.map (Value.int .i64):=by
 apply List.ext_getElem?;intro k;by_cases hk:k<ts.length
 · rw[XR,if_pos hk]
   have hk2:k<cur.size:=om;simp[Go.Sort.putCells,hk,hk2]
 · rw[XT ae5,XT acG]
theorem Mi{a:Option Addr}{c:Nat}{l m:List Nat}(hn:l.length<=1000)(hp:l.Perm m)(hs:m.Pairwise (· <= ·)):CT prog w0 (row (.slice a l.length c) 3 1 (l.flatMap lq)::H) 69 [.slice a l.length c] (α:=Unit) (fun _=> .tuple #[]) (fun _=>row (.slice a l.length c) 3 1 (m.flatMap lq)::H):=fun w hw=>by
 have hrow:qS (.slice a l.length c) 3 1 (l.flatMap lq) w:=hw.holds (row (.slice a l.length c) 3 1 (l.flatMap lq)) sm;by_cases h0:l.length=0
 · have hl:l=[]:=Xr h0
   have hm:m=[]:=Xr (by rw[←hp.length_eq];exact h0);subst hl;subst hm;refine(AnyM.slices_Sort_int_none AZ a c w).mono ?_;rintro e w' ⟨rfl,rfl⟩;exact agp
 · obtain⟨a',n',c',hv,hl,hn',hc,ha,hx⟩:=hrow
   simp only[Value.slice.injEq]at hv;obtain⟨rfl,rfl,rfl⟩:=hv;obtain⟨g,cur,rfl,hg,hsz,htk⟩:=hx om;have hc0:c≠0:=om;have hgl:g<w.heap.size:=(Xk.1 hg).1;obtain⟨zs,hzs⟩:∃zs:List Int,zs=l.map fun n:Nat=>(n:Int):=⟨_,rfl⟩;have hzl:zs.length=l.length:=by rw[hzs,WZ]
   have hH:Holds (Value.int .i64) w g 0 zs.toArray:=fun j hj=>by
     have hj':j<l.length:=by simpa[hzl]using hj
     constructor
     · have h1:(cur.toList.take (l.length*1))[j]? =some (.int .i64 (l[j]:Int)):=by rw[htk];exact CV l j hj'
       rw[XR,if_pos om]at h1;have h2:zs.toArray[j]! =(l[j]:Int):=by
         rw[getElem!_pos _ j afE];simp[hzs]
       simp only[World.cell?,hg,XQ,h2];simpa using h1
     · simp[World.frozen?,hg]
   have hsort:(zs.mergeSort fun x y=>decide (x<=y))=m.map fun n:Nat=>(n:Int):=by
     refine List.Perm.eq_of_pairwise (le:=fun x y:Int=>x<=y) (fun a b _ _ h1 h2=>Int.le_antisymm h1 h2) ?_ ?_ ?_
     · have h:=List.pairwise_mergeSort (le:=fun x y:Int=>decide (x<=y)) (fun a b c h1 h2=>by simp only[decide_eq_true_eq]at*;omega) (fun a b=>by simp only[Bool.or_eq_true,decide_eq_true_eq];omega) zs
       exact h.imp fun h=>of_decide_eq_true h
     · exact List.Pairwise.map _ (fun a b h=>by omega) hs
     · exact(List.mergeSort_perm zs _).trans (by rw[hzs];exact hp.map _)
   have hC:=AnyM.slices_Sort_int AZ g 0 c zs w hH hgl om;rw[hzl,hsort]at hC;refine hC.mono ?_;rintro e w' ⟨rfl,n,os,rfl⟩;have hml:(m.map fun n:Nat=>(n:Int)).length=l.length:=by rw[WZ,hp.length_eq]
   have hnew:(grow (putRow (Value.int .i64) (Sort.ahead w n) g 0 (m.map fun n:Nat=>(n:Int)).toArray) os).heap[g]? =some (.cells (Go.Sort.putCells (Value.int .i64) 0 (m.map fun n:Nat=>(n:Int)).toArray cur) 3 (0,0)):=by
     rw[heap_grow_old _ _ (by rw[size_putRow];exact hgl)];show(w.heap.modify g (onCells _))[g]? =_;rw[YX,if_pos rfl,hg];rfl
   refine⟨(),rfl,hw.swap rfl rfl rfl (by show w.heap.size<=((putRow (Value.int .i64) (Sort.ahead w n) g 0 _).heap++os).size;rw[Y1,size_putRow];exact Yh _ _) (fun k hk hkn=>?_) ?_ (by show(bQ (.slice (some ⟨g,0,none⟩) l.length c)).Nodup;simp[bQ,hc0]) (fun b hb=>?_)⟩
   · have hkg:k≠g:=fun he=>hkn (by show k∈bQ (.slice (some ⟨g,0,none⟩) l.length c);rw[he];simp[bQ];omega)
     rw[heap_grow_old _ _ (by rw[size_putRow];exact hk)];show(w.heap.modify g (onCells _))[k]? =_;rw[YX,if_neg (fun h=>hkg h.symm)]
   · refine⟨some ⟨g,0,none⟩,l.length,c,rfl,by rw[CZ,←hp.length_eq];omega,hn',hc,(fun h=>by cases h),fun _=>⟨g,_,rfl,hnew,by rw[←hsz];simp[Go.Sort.putCells],?_⟩⟩
     have h:=Gz cur (m.map fun n:Nat=>(n:Int)) (by rw[hml,hsz];omega);rw[hml]at h;rw[Yp,h,Yo];clear h hnew hml hC hsort hp hs
     induction m with
     |nil=>rfl
     |cons x m ih=>rw[Xt,Xw,ih];rfl
   · have hb2:b∈bQ (.slice (some ⟨g,0,none⟩) l.length c):=hb
     refine⟨.inl hb2,?_⟩;have hbg:b=g:=by simpa[bQ,hc0]using hb2
     rw[hbg];show g<((putRow (Value.int .i64) (Sort.ahead w n) g 0 _).heap++os).size;rw[Y1,size_putRow];show g<w.heap.size+os.size;omega
theorem sA(pre:ByteArray)(n:Nat):(fW pre n).data.toList=(pre++mT).data.toList++Lib.decDigits n:=by
 unfold fW;rw[ByteArray.data_append,Array.toList_append]
theorem Jj(pre:ByteArray)(n:Nat):Lib.hasPrefix (fW pre n).data.toList (pre++mT).data.toList=true:=by
 unfold Lib.hasPrefix;rw[sA,List.isPrefixOf_iff_prefix];exact List.prefix_append _ _
theorem LG(pre:ByteArray)(n:Nat):Lib.trimPrefix (fW pre n).data.toList (pre++mT).data.toList=Lib.decDigits n:=by
 unfold Lib.trimPrefix;rw[Jj,if_pos rfl,sA,YQ]
theorem O3:∀i:Fin 10,Lib.atoiAll [UInt8.ofNat (48+i.val)]= .ok (i.val:Int):=adv
theorem Oz:∀i:Fin 100,¬i.val<10->Lib.atoiAll [UInt8.ofNat (48+i.val/10),UInt8.ofNat (48+i.val%10)]= .ok (i.val:Int):=adv
theorem vE{n:Nat}(h:n<100):Lib.atoiAll (Lib.decDigits n)= .ok (n:Int):=by
 by_cases h1:n<10
 · rw[Lib.decDigits_one h1];exact O3 ⟨n,h1⟩
 · rw[Lib.decDigits_two h1 h];exact Oz ⟨n,h⟩ h1
attribute [local irreducible] cv bL fW fH
theorem JD{pre:ByteArray}(hp:pre.size<=1000){n:Nat}(h1:1<=n)(hn:n<100):CT prog w0 (H) 68 [.string pre,.string (fW pre n)] (α:=Unit) (fun _=> .int .i64 (n:Int)) (fun _=>H):=by
 refine aix ?_;refine zq (ke (v:= .string (pre++mT)) rfl rfl (pV (b:=mT) (by have:mT.size=1:=rfl;omega))) rfl ?_;refine ze rfl (zc (MS (s:=fW pre n) (p:=pre++mT)) rfl (fun x13=>?_));rw[LG,Jj];refine gG ?_;refine ze rfl (zc (NU (s:=(⟨(Lib.decDigits n).toArray⟩:ByteArray)) (by have:=AU n hn;omega) (v:=(n:Int)) (vE hn)) rfl (fun x18=>gG ?_));refine yS 23 ?_ ?_<;>intro h23 p23
 ·exact absurd h23 dc
 refine gG ?_;refine zq (D1 rfl underlying219) rfl ?_;refine gG ?_;refine yS 27 ?_ ?_<;>intro h27 p27
 ·exact absurd h27 dc
 refine gG ?_;refine yS 31 ?_ ?_<;>intro h31 p31
 ·exact absurd h31 so
 refine gG ?_;refine ze rfl (zc (Km hn) rfl (fun x33=>gG ?_));refine zq (vy rfl rfl) rfl ?_;refine gG ?_;refine yC ?_ ?_<;>intro h36 p36
 ·exact absurd h36 sm
 refine gG ?_;exact ahn
end
section
def Fs(fs:Nat->Nat)(rc:Nat->List (List UInt8)):List Nat->Nat->Nat->Prop
 |[],a,b=>a=b
 |n::ns,a,b=>fs n=a/\Fs fs rc ns (a+(rc n).length) b
variable {rc:Nat->List (List UInt8)} {fs:Nat->Nat} {pre:ByteArray} {av:List Nat} {all:List (List UInt8)} {nx:Nat} {f:kz} {a:ca} {r:List UInt8}
theorem ve:∀ {ns:List Nat}{a b:Nat},Fs fs rc ns a b->a<=b
 |[],a,b,h=>by have:a=b:=h;omega
 |n::ns,a,b,h=>by have:=ve h.2;omega
theorem yh:∀ {ns:List Nat}{a b:Nat},Fs fs rc ns a b->∀n∈ns,a<=fs n/\fs n+(rc n).length<=b
 |[],_,_,_,n,h=>by cases h
 |x::ns,a,b,h,n,hn=>by
   have h2:=ve h.2;rcases Xg.1 hn with rfl|hn
   · rw[h.1];exact⟨W8 _,h2⟩
   · have:=yh h.2 n hn;omega
theorem uD{x:Nat}:∀ {ns:List Nat}{a b:Nat},Fs fs rc (ns++[x]) a b↔Fs fs rc ns a (fs x)/\b=fs x+(rc x).length
 |[],a,b=>by
   show(fs x=a/\a+(rc x).length=b)↔(a=fs x/\b=fs x+(rc x).length)
   constructor
   · rintro⟨h1,h2⟩;exact⟨h1.symm,by rw[h1];exact h2.symm⟩
   · rintro⟨h1,h2⟩;exact⟨h1.symm,by rw[h1];exact h2.symm⟩
 |n::ns,a,b=>by
   show(fs n=a/\Fs fs rc (ns++[x]) (a+(rc n).length) b)↔((fs n=a/\Fs fs rc ns (a+(rc n).length) (fs x))/\b=fs x+(rc x).length);rw[uD,and_assoc]
theorem sV{fs':Nat->Nat}{rc':Nat->List (List UInt8)}:∀ {ns:List Nat}{a b:Nat},(∀n∈ns,fs' n=fs n/\rc' n=rc n)->Fs fs rc ns a b->Fs fs' rc' ns a b
 |[],_,_,_,h=>h
 |n::ns,a,b,he,h=>by
   have h1:=he n sm;exact⟨by rw[h1.1];exact h.1,by rw[h1.2];exact sV (fun x hx=>he x (by simp[hx])) h.2⟩
theorem qF{rc':Nat->List (List UInt8)}:∀ {ns:List Nat},(∀n∈ns,rc' n=rc n)->ns.flatMap rc'=ns.flatMap rc
 |[],_=>rfl
 |n::ns,h=>by rw[Xw,Xw,h n sm,qF fun x hx=>h x (by simp[hx])]
theorem mb{n k:Nat}(hn:n<100)(hk:k<100)(h:fW pre n=fW pre k):n=k:=by
 have h1:=congrArg (fun b:ByteArray=>b.data.toList) h;simp only[sA]at h1;have h2:=List.append_cancel_left h1;have h3:=(vE hn).symm.trans ((congrArg Lib.atoiAll h2).trans (vE hk));have h4:(n:Int)=(k:Int):=by injection h3
 omega
theorem Cp(n:Nat)(hn:n<100):(fW pre n).size<=pre.size+3/\1<=(fW pre n).size:=by
 have h:=AU n hn;have h2:mT.size=1:=rfl;unfold fW;rw[YW,YW,h2];omega
theorem nA(l:List Nat)(x:Nat):bY (l++[x])=x:=by unfold bY;simp
theorem Bt{l:List Nat}(h:l.length≠0):bY l∈l:=by
 unfold bY;cases l with
 |nil=>simp at h
 |cons x l=>rw[List.getLastD_eq_getLast?,List.getLast?_eq_some_getLast sm];exact List.getLast_mem _
theorem Dx{l:List Nat}(h:l.length≠0):∃i,l=i++[bY l]:=by
 have hne:l≠[]:=fun he=>h (by rw[he];rfl);refine⟨l.dropLast,?_⟩;unfold bY;rw[List.getLastD_eq_getLast?,List.getLast?_eq_some_getLast hne];exact(List.dropLast_concat_getLast hne).symm
theorem qI(l:List Nat):fq l<=bY l+1:=by unfold fq;split<;>omega
theorem vf{α β:Type}(f:α->β)(P:α->Prop):∀l:List β,(∀y∈l,∃x,P x/\y=f x)->∃xs:List α,l=xs.map f/\∀x∈xs,P x
 |[],_=>⟨[],rfl,fun _ h=>by cases h⟩
 |y::l,h=>by
   obtain⟨x,hx,hy⟩:=h y sm;obtain⟨xs,h1,h2⟩:=vf f P l (fun z hz=>h z (by simp[hz]));exact⟨x::xs,by rw[hy,h1];rfl,fun z hz=>by rcases Xg.1 hz with rfl|hz;exact hx;exact h2 z hz⟩
theorem sJ{es:FM}{e:iK ByteArray BS}(h:e∈es):eu es e.k≠none:=by
 intro hn;simp only[eu,Option.map_eq_none_iff]at hn;have:=YR.1 hn e h;simp at this
theorem EW(h:∀n∈av,1<=n/\n<=bY av):∀n∈av,n<fq av:=fun n hn=>by
 have h1:=(h n hn).2;unfold fq;rw[if_neg (by intro h0;rw[Xr h0]at hn;cases hn)];omega
theorem BQ(av:List Nat):1<=fq av:=by unfold fq;split<;>omega
structure kC(pre:ByteArray)(f:kz)(av:List Nat)(fs:Nat->Nat)(rc:Nat->List (List UInt8))(t:List UInt8)(all:List (List UInt8))(nx:Nat):Prop where
 keys:∀key,f key≠none->∃n∈av,key=fW pre n
 file:∀n∈av,f (fW pre n)=some (bL (fs n) (rc n)++(if n=bY av then t else[]))
 uR:av.Pairwise (· < ·)
 Aq:∀n∈av,1<=n/\n<=bY av
 chain:∃a,1<=a/\Fs fs rc av a nx
 K5:all=av.flatMap rc
theorem kC.start:kC pre (fun _=>none) [] fs rc [] [] 1:=
 ⟨fun key h=>absurd rfl h,(fun _ h=>by cases h),List.Pairwise.nil,(fun _ h=>by cases h),⟨1,W8 _,rfl⟩,rfl⟩
theorem kC.M0(h:kC pre f av fs rc [] all nx)(hs:av.length≠0)(hlast:bY av<100)(hk:a.kind=1)(hn:a.name=fW pre (bY av)):kC pre (jY f a) av fs rc a.b.l all nx:=by
 have hm:=Bt hs;refine⟨fun key hk2=>?_,fun n hn2=>?_,h.uR,h.Aq,h.chain,h.K5⟩
 · by_cases hq:key=a.name
   · exact⟨_,hm,hq.trans hn⟩
   · have e:jY f a key=f key:=by unfold jY;rw[if_pos hk,if_neg hq]
     rw[e]at hk2;exact h.keys key hk2
 · by_cases hq:n=bY av
   · have hf:=h.file _ hm
     rw[if_pos rfl,Xn]at hf;rw[hq,if_pos rfl];unfold jY;rw[if_pos hk,hn,if_pos rfl,hf];rfl
   · rw[if_neg hq]
     have hf:=h.file n hn2;rw[if_neg hq]at hf;have h1:=(h.Aq n hn2).2;have hne:fW pre n≠a.name:=fun he=>hq (mb om hlast (he.trans hn));unfold jY;rw[if_pos hk,if_neg hne];exact hf
theorem kC.MR(h:kC pre f av fs rc [] all nx)(hlast:bY av<99)(hk:a.kind=2)(hn:a.name=fW pre (fq av)):∃fs' rc',kC pre (jY f a) (av++[fq av]) fs' rc' a.b.l all nx:=by
 have hgt:=EW h.Aq;have hnl:=qI av;have hcg:∀n∈av,(if n=fq av then nx else fs n)=fs n/\(if n=fq av then[]else rc n)=rc n:=fun n hn=>by
   have:=hgt n hn;exact⟨if_neg om,if_neg om⟩
 have hd:∀key,jY f a key=if key=a.name then some a.b.l else f key:=fun key=>by
   unfold jY;rw[if_neg om,if_pos hk]
 obtain⟨a0,ha0,hch⟩:=h.chain;refine⟨fun n=>if n=fq av then nx else fs n,fun n=>if n=fq av then[]else rc n,fun key hk2=>?_,fun n hn2=>?_,?_,fun n hn2=>?_,⟨a0,ha0,?_⟩,?_⟩
 · rw[hd]at hk2
   by_cases hq:key=a.name
   · exact⟨_,sm,hq.trans hn⟩
   · rw[if_neg hq]at hk2
     obtain⟨n,hn3,h4⟩:=h.keys key hk2;exact⟨n,by simp[hn3],h4⟩
 · rw[nA,hd]
   rcases Xc.1 hn2 with hn2|hn2
   · have h1:=hgt n hn2
     have h2:=(h.Aq n hn2).2;have hf:=h.file n hn2;rw[show(if n=bY av then([]:List UInt8)else[])=[]from by split<;>rfl]at hf;have hne:fW pre n≠a.name:=fun he=>absurd (mb om om (he.trans hn)) om;rw[if_neg hne,(hcg n hn2).1,(hcg n hn2).2,if_neg (show n≠fq av by omega)];exact hf
   · obtain rfl:n=fq av:=by simpa using hn2
     rw[if_pos hn.symm,if_pos rfl,if_pos rfl,if_pos rfl];rfl
 · rw[List.pairwise_append]
   exact⟨h.uR,List.pairwise_singleton _ _,fun a ha b hb=>by
     obtain rfl:b=fq av:=ad5;exact hgt a ha⟩
 · rw[nA]
   rcases Xc.1 hn2 with hn2|hn2
   · exact⟨(h.Aq n hn2).1,by have:=hgt n hn2;omega⟩
   · obtain rfl:n=fq av:=by simpa using hn2
     exact⟨BQ _,W8 _⟩
 · rw[uD]
   refine⟨?_,?_⟩
   · rw[if_pos rfl];exact sV hcg hch
   · rw[if_pos rfl,if_pos rfl];rfl
 · rw[Yb,qF fun n hn=>(hcg n hn).2,←h.K5]
   simp
theorem kC.whole(h:kC pre f av fs rc (cv nx r) all nx)(hs:av.length≠0):∃rc',kC pre f av fs rc' [] (all++[r]) (nx+1):=by
 obtain⟨L,hL⟩:∃L,L=bY av:=⟨_,rfl⟩;have hm:L∈av:=by rw[hL];exact Bt hs
 obtain⟨i,hi⟩:=Dx hs;rw[←hL]at hi;obtain⟨a0,ha0,hch⟩:=h.chain;rw[hi,uD]at hch;have hni:∀n∈i,n≠L:=fun n hn h2=>by
   have hp2:=h.uR;rw[hi,List.pairwise_append]at hp2;have:=hp2.2.2 n hn L sm;omega
 have hcg:∀n∈i,fs n=fs n/\(if n=L then rc n++[r]else rc n)=rc n:=fun n hn=>⟨rfl,if_neg (hni n hn)⟩;refine⟨fun n=>if n=L then rc n++[r]else rc n,h.keys,fun n hn=>?_,h.uR,h.Aq,⟨a0,ha0,?_⟩,?_⟩
 · have hf:=h.file n hn
   rw[←hL]at hf ⊢;by_cases hq:n=L
   · subst hq
     rw[if_pos rfl]at hf;rw[hf,if_pos rfl,if_pos rfl,Xn,tv,←hch.2];simp only[bL,Xn]
   · rw[if_neg hq]at hf
     rw[hf,if_neg hq,if_neg hq]
 · rw[hi,uD]
   refine⟨sV hcg hch.1,?_⟩;rw[if_pos rfl,WX,←X9,←hch.2];rfl
 · rw[h.K5,hi,Yb,Yb,qF fun n hn=>(hcg n hn).2]
   simp
def yX(pre:ByteArray)(av:List Nat)(nx:Nat)(a:ca)(r:List UInt8):Prop:=
 (av.length≠0/\a.kind=1/\a.name=fW pre (bY av)/\a.b.l=cv nx r)∨(a.kind=2/\a.name=fW pre (fq av)/\a.b.l=cv nx r)
theorem kC.act(h:kC pre f av fs rc [] all nx)(ha:yX pre av nx a r)(hlast:bY av<99):∃fs' rc',kC pre (jY f a) (if a.kind=1 then av else av++[fq av]) fs' rc' [] (all++[r]) (nx+1):=by
 rcases ha with⟨hs,hk,hn,hb⟩|⟨hk,hn,hb⟩
 · have h1:=h.M0 hs om hk hn
   rw[hb]at h1;obtain⟨rc',h2⟩:=h1.whole hs;rw[if_pos hk];exact⟨fs,rc',h2⟩
 · obtain⟨fs',rc',h1⟩:=h.MR hlast hk hn
   rw[hb]at h1;obtain⟨rc2,h2⟩:=h1.whole sm;rw[if_neg om];exact⟨fs',rc2,h2⟩
theorem kC.dP(h:kC pre f av fs rc [] all nx)(ha:yX pre av nx a r)(hlast:bY av<99)(m:Nat):∃segs' fs' rc',kC pre (jY f (fi a m)) segs' fs' rc' ((cv nx r).take m) all nx/\bY segs'<=bY av+1/\segs'.length<=av.length+1/\segs'.length≠0:=by
 rcases ha with⟨hs,hk,hn,hb⟩|⟨hk,hn,hb⟩
 · have h1:=h.M0 (a:=fi a m) hs om hk hn
   rw[show(fi a m).b.l=(cv nx r).take m from by rw[←hb];rfl]at h1;exact⟨av,fs,rc,h1,om,om,hs⟩
 · obtain⟨fs',rc',h1⟩:=h.MR (a:=fi a m) hlast hk hn
   rw[show(fi a m).b.l=(cv nx r).take m from by rw[←hb];rfl]at h1;exact⟨_,fs',rc',h1,by rw[nA];exact qI av,sm,sm⟩
def EA(pre:ByteArray)(s:DS)(all:List (List UInt8))(ex:Option (List UInt8))(B:Nat):Prop:=
 ∃av fs rc nx,kC pre (cont s.e1) av fs rc [] all nx/\bY av<=B/\av.length<=B/\nx<=1+B/\((s.cw=[]/\ex=none)∨∃a r,s.cw=[a]/\ex=some r/\yX pre av nx a r)
theorem E9(kp:Nat)(dP cut:Int)(f:kz):MJ kp dP cut f []=f:=rfl
theorem LD(kp:Nat)(dP cut:Int)(f:kz)(a:ca):MJ kp dP cut f [a]=match rN kp dP cut a 0 with|some b=>jY f b|none=>f:=vS kp dP cut f [] a
theorem EA.M4{s s':DS}{ex:Option (List UInt8)}{B N M kp:Nat}{dP cut:Int}(h:EA pre s all ex B)(hB:B<98)(hr:∀r,ex=some r->r.length<=40000)(hc:lC s N M kp dP cut s'):∃av fs rc t nx all',kC pre (cont s'.e2) av fs rc t all' nx/\(fl t=none/\t.length<=40100)/\bY av<=B+1/\av.length<=B+1/\nx<=2+B/\(av.length=0->t=[])/\(all'=all∨∃r,ex=some r/\all'=all++[r]):=by
 obtain⟨av,fs,rc,nx,hl,h1,h2,h3,hp⟩:=h;have hcon:=hc.N2;rcases hp with⟨hp,he⟩|⟨a,r,hp,he,ha⟩
 · rw[hp,E9]at hcon
   exact⟨av,fs,rc,[],nx,all,by rw[hcon];exact hl,⟨nj,sm⟩,om,om,om,fun _=>rfl,.inl rfl⟩
 · rw[hp,LD]at hcon
   have hwhole:∃segs' fs' rc',kC pre (jY (cont s.e1) a) segs' fs' rc' [] (all++[r]) (nx+1)/\bY segs'<=B+1/\segs'.length<=B+1:=by
     obtain⟨fs',rc',h4⟩:=hl.act ha om;refine⟨_,fs',rc',h4,?_,?_⟩
     · split
       · omega
       · rw[nA];have:=qI av;omega
     · split
       · omega
       · simp;omega
   have htorn:∀m,m<(cv nx r).length->∃av fs rc t nx all',kC pre (jY (cont s.e1) (fi a m)) av fs rc t all' nx/\(fl t=none/\t.length<=40100)/\bY av<=B+1/\av.length<=B+1/\nx<=2+B/\(av.length=0->t=[])/\(all'=all∨∃r,ex=some r/\all'=all++[r]):=fun m hm=>by
     obtain⟨segs',fs',rc',h4,h5,h6,h7⟩:=hl.dP ha om m;exact⟨segs',fs',rc',_,nx,all,h4,⟨DC om (by have:=hr r he;omega) hm,by rw[Xj];have:=hr r he;have:=(gx nx om r om).1;omega⟩,om,om,om,fun h0=>absurd h0 h7,.inl rfl⟩
   have hall:∃av fs rc t nx all',kC pre (jY (cont s.e1) a) av fs rc t all' nx/\(fl t=none/\t.length<=40100)/\bY av<=B+1/\av.length<=B+1/\nx<=2+B/\(av.length=0->t=[])/\(all'=all∨∃r,ex=some r/\all'=all++[r]):=by
     obtain⟨segs',fs',rc',h4,h5,h6⟩:=hwhole;exact⟨segs',fs',rc',[],_,_,h4,⟨nj,sm⟩,h5,h6,om,fun _=>rfl,.inr ⟨r,he,rfl⟩⟩
   have hab:a.b.l=cv nx r:=by rcases ha with⟨-,-,-,h⟩|⟨-,-,h⟩<;>exact h
   have hdo:∀m,(cv nx r).length<=m->jY (cont s.e1) (fi a m)=jY (cont s.e1) a:=fun m hm=>by
     have e:(fi a m).b.l=a.b.l:=by show a.b.l.take m=_;exact W7 (by rw[hab];exact hm)
     unfold jY;rw[e];rfl
   rw[hcon];generalize hl2:rN kp dP cut a 0=o;cases o with
   |none=>exact⟨av,fs,rc,[],nx,all,hl,⟨nj,sm⟩,om,om,om,fun _=>rfl,.inl rfl⟩
   |some b=>
     simp only;unfold rN at hl2
     split at hl2
     · injection hl2 with hl2
       rw[←hl2];rcases X7 (Dw cut a.b.l.length).toNat (cv nx r).length with hm|hm
       · exact htorn _ hm
       · rw[hdo _ hm];exact hall
     · split at hl2
       · injection hl2 with hl2
         rw[←hl2];exact hall
       · cases hl2
theorem kC.names{s:DS}{t:List UInt8}(h:kC pre (cont s.e2) av fs rc t all nx)(hlast:bY av<100)(hg:eQ s.e2 s.c2):∃ns:List Nat,bS s.e2=ns.map (fW pre)/\ns.Perm av:=by
 have hp:=ka s.e2;obtain⟨ns,h1,h2⟩:=vf (fW pre) (fun n=>n∈av) (bS s.e2) (fun y hy=>by
   obtain⟨e,he,rfl⟩:=Xd.1 (hp.mem_iff.1 hy);refine h.keys _ (fun h0=>sJ he ?_);unfold cont at h0;simpa using h0)
 have hlt:∀n∈av,n<100:=fun n hn=>by have:=(h.Aq n hn).2;omega
 refine⟨ns,h1,(List.perm_ext_iff_of_nodup ?_ (h.uR.imp fun h=>Nat.ne_of_lt h)).2 fun n=>⟨h2 n,fun hn=>?_⟩⟩
 · have hnd:(bS s.e2).Nodup:=hp.nodup_iff.2 hg.keys
   rw[h1]at hnd;exact(Y4.1 hnd).imp fun h he=>h (by rw[he])
 · have hf:=h.file n hn
   unfold cont at hf;obtain⟨x,hx1,-⟩:=Yf.1 hf;obtain⟨e,he,hk,-⟩:=lQ hx1;have hm:fW pre n∈bS s.e2:=hp.mem_iff.2 (Xd.2 ⟨e,he,hk⟩);rw[h1]at hm;obtain⟨k,hk1,hk2⟩:=Xd.1 hm;rw[←mb (hlt k (h2 k hk1)) (hlt n hn) hk2];exact hk1
attribute [local irreducible] cv bL fW bS bY fq fH
end
end Go.Proofs.YtmbfimckmfnnjaaGreatDoor
