/- Steps of the proof of a law. -/
import Derived.Test.YtmbfimckmfnnjaaGreatDoorQ20
import Derived.Shelf.SlIter.Nil
import Derived.Shelf.SortM.Plain
import Derived.Shelf.SortM.SortNone
import Derived.Shelf.Strconv.Itoa3
import Derived.Shelf.Strconv.AtoiAll
import Derived.Shelf.Small.Wraps
import Derived.Shelf.GgClosure.StringsIndexFuncTop
set_option maxRecDepth 100000
set_option maxHeartbeats 1000000
set_option linter.unusedSimpArgs false
set_option linter.unusedVariables false
namespace Go.Proofs.YtmbfimckmfnnjaaGreatDoor
open Go.RowKit Go.Sx Go.Proofs.Tryz
section
structure DS where
 r1:Nat
 r2:Nat
 e1:FM
 c1:Nat
 e2:FM
 c2:Nat
 pa:Option Addr
 pc:Nat
 cw:List ca
 room:Int
 dE:Int
 down:Bool
 fp:List Nat
 bs:List BS
@[reducible] def xu(p:Nat)(s:DS):SA:=aF p (.cells (bu.mk s.room (some s.r1) (some s.r2) ⟨s.pa,s.cw.length,s.pc⟩ s.dE s.down).cells 77 (0,0))
@[reducible] def A4(s:DS):SA:=row (.slice s.pa s.cw.length s.pc) 121 4 (s.cw.flatMap ca.list)
@[reducible] def DS.H(p:Nat)(s:DS)(H:List SA):List SA:=xu p s::aF s.r1 (cF encS BS.val s.e1 s.c1)::aF s.r2 (cF encS BS.val s.e2 s.c2)::A4 s::dX s.fp ⟨s.bs,[],[]⟩::H
structure DS.Ok(s:DS)(N M:Nat):Prop where
 qk:eQ s.e1 s.c1
 gR:eQ s.e2 s.c2
 Av:∀e∈s.e1,e.v∈s.bs
 oH:∀e∈s.e2,e.v∈s.bs
 xd:∀a∈s.cw,a.b∈s.bs
 zero:zB∈s.bs
 len:∀x∈s.bs,x.l.length<=M
 short:∀a∈s.cw,a.b.l.length<=2000000
 n1:s.e1.length<=N
 n2:s.e2.length<=N
 np:s.cw.length<=N
 oB:0<=s.room
 nk:s.room<=1048576
 pg:s.dE<=9223372036854775807
variable {w0:World} {H:List SA} {p:Nat} {es:FM} {s:DS}
theorem lQ{k:ByteArray}{v:BS}(h:eu es k=some v):∃e∈es,e.k=k/\e.v=v:=by
 simp only[eu,Yf]at h;obtain⟨e,h1,h2⟩:=h;have h3:=List.find?_some h1;exact⟨e,List.mem_of_find?_eq_some h1,(of_decide_eq_true h3).symm,h2⟩
theorem jL{bs:List BS}(h:∀e∈es,e.v∈bs)(hz:zB∈bs)(k:ByteArray):gl es k∈bs:=by
 unfold gl;cases hg:eu es k with
 |none=>exact hz
 |some v=>obtain⟨e,he,-,rfl⟩:=lQ hg;exact h e he
theorem HG(M:Nat):∀es:FM,(∀e∈es,e.v.l.length<=M)->kF es<=es.length*M
 |[],_=>by simp[kF]
 |e::es,h=>by
   have h1:=HG M es (fun x hx=>h x (by simp[hx]));have h2:=h e sm;simp only[kF,Xt,List.sum_cons,Xq]at h1 ⊢;rw[XY,Nat.one_mul];omega
theorem DS.Ok.size{N M:Nat}(h:s.Ok N M)(hN:N<=1000000)(hM:M<=2000000000):kF s.e2<=4000000000000000:=by
 have h1:=HG M s.e2 (fun e he=>h.len _ (h.oH e he));have h2:=Yz h.n2 (W8 M);have h3:N*M<=1000000*2000000000:=Yz hN hM;omega
def iN(dE:Int):Int:=if 0<dE then dE-1 else dE
def ll(dE:Int)(down:Bool):Bool:=if dE=0 then true else down
def JX(s:DS)(a:ca)(s':DS)(e:Int):Prop:=
 (ll s.dE s.down=true/\e=14/\s'= {s with dE:=iN s.dE,down:=true})∨
 (ll s.dE s.down=false/\e=0/\∃(x:BS)(pa:Option Addr)(pc:Nat)(fp:List Nat),x.l=kA s.e2 a/\s'= {s with dE:=iN s.dE,down:=false,e2:=oA s.e2 a x s.c2,c2:=sE s.e2 a s.c2,cw:=s.cw++[a],pa:=pa,pc:=pc,fp:=fp,bs:=x::s.bs})
theorem St.AE{w:World}{x:BS}{fp:List Nat}{bs:List BS}{e:TypeId}(h:St w0 (row (.slice x.a x.l.length x.c) e 1 (aE x.l)::dX fp ⟨bs,[],[]⟩::H) w):St w0 (dX (bQ (.slice x.a x.l.length x.c)++fp) ⟨x::bs,[],[]⟩::H) w:=
 h.KV.j3
theorem Ke{room:Int}{sy nw:Option Nat}{pe:Sl}{dE:Int}{down:Bool}(hf:dE<=9223372036854775807):CT prog w0 (aF p (.cells (bu.mk room sy nw pe dE down).cells 77 (0,0))::H) 218 [.pointer (some ⟨p,0,none⟩)] (α:=Unit) (fun _=> .bool (!ll dE down)) (fun _=>aF p (.cells (bu.mk room sy nw pe (iN dE) (ll dE down)).cells 77 (0,0))::H):=by
 refine al func218 rfl ntmps218 rfl (gG ?_);refine yC ?_ ?_<;>intro h7 p7<;>refine gG ?_
 ·refine abN ?_;refine yC ?_ ?_<;>intro h15 p15
  ·refine gA ?_;refine zN (az (.int .i64 _) rfl rfl (?_));refine zz (zx (zS (zR (zq (zm (.pointer _) rfl) rfl (zq (aN rfl) rfl (zq (zf 5 rfl rfl) rfl (zq (zl rfl) rfl ?_)))))));refine zq (tm rfl) rfl (zq (za (.bool _) rfl) rfl (zz (zx (zQ ?_))))
   exfalso;omega
  refine gG ?_;have e1:iN dE=dE:=by unfold iN;rw[if_neg om]
  have e2:ll dE down=true:=by unfold ll;rw[if_pos om]
  exact acL
 refine yC ?_ ?_<;>intro h15 p15
 ·refine gA ?_;refine aax ?_;have e1:iN dE=dE-1:=by unfold iN;rw[if_pos om]
  have e2:ll dE down=down:=by unfold ll;rw[if_neg om]
  exact acL
 refine gG ?_;have e1:iN dE=dE:=by unfold iN;rw[if_neg om]
 have e2:ll dE down=down:=by unfold ll;rw[if_neg om]
 exact acL
def Iv(room:Int)(es:FM)(more less:Int):Bool:=decide (more<=room-(kF es:Int)+less)
theorem HL{r c:Nat}{room:Int}{sy:Option Nat}{pe:Sl}{dE:Int}{down:Bool}{more less:Int}(hg:eQ es c)(hs:kF es<=4000000000000000)(h1:0<=room/\room<=1048576)(h2:0<=less/\less<=4294967296):CT prog w0 (aF p (.cells (bu.mk room sy (some r) pe dE down).cells 77 (0,0))::aF r (cF encS BS.val es c)::H) 216 [.pointer (some ⟨p,0,none⟩),.int .i64 more,.int .i64 less] (α:=Unit) (fun _=> .bool (Iv room es more less)) (fun _=>aF p (.cells (bu.mk room sy (some r) pe dE down).cells 77 (0,0))::aF r (cF encS BS.val es c)::H):=by
 refine al func216 rfl ntmps216 rfl (gG ?_);refine dw (aF p (.cells (bu.mk room sy (some r) pe dE down).cells 77 (0,0))::aF r (cF encS BS.val es c)::H) [(0,true),(1,true),(2,true),(3,true),(4,true),(5,true),(6,true),(7,true),(8,true),(11,true),(9,false),(10,true),(12,true),(13,true),(14,true)] (fun hns0=>?_);refine gA ?_;refine km r ?_;refine cX rfl rfl (zc (K4 hg hs) rfl (fun x16=>⟨SB,(gA ?_)⟩));exact zX () [_] results216 ⟨rfl,trivial⟩ rfl SB
theorem Fa{w:World}{b3:Nat}{a:ca}{x13:BS}{a20 a21:Option Addr}{c20 c21:Nat}
   (h:St w0 (aF p (.cells (bu.mk s.room (some s.r1) (some s.r2) ⟨a21,(s.cw++[a]).length,c21⟩ (iN s.dE) false).cells 77 (0,0))::row (.slice a21 (s.cw++[a]).length c21) 121 4 ((s.cw++[a]).flatMap ca.list)::row (.slice a20 1 c20) 121 4 (([a]:List ca).flatMap ca.list)::aF s.r2 (cF encS BS.val (oA s.e2 a x13 s.c2) (sE s.e2 a s.c2))::row (.slice x13.a x13.l.length x13.c) 5 1 (aE x13.l)::aF b3 (.cells a.cells 121 (0,0))::aF s.r1 (cF encS BS.val s.e1 s.c1)::dX s.fp ⟨s.bs,[],[]⟩::H) w):St w0 (DS.H p {s with dE:=iN s.dE,down:=false,e2:=oA s.e2 a x13 s.c2,c2:=sE s.e2 a s.c2,cw:=s.cw++[a],pa:=a21,pc:=c21,fp:=bQ (.slice x13.a x13.l.length x13.c)++s.fp,bs:=x13::s.bs} H) w:=by
 have h1:St w0 (row (.slice x13.a x13.l.length x13.c) 5 1 (aE x13.l)::dX s.fp ⟨s.bs,[],[]⟩::aF p (.cells (bu.mk s.room (some s.r1) (some s.r2) ⟨a21,(s.cw++[a]).length,c21⟩ (iN s.dE) false).cells 77 (0,0))::aF s.r1 (cF encS BS.val s.e1 s.c1)::aF s.r2 (cF encS BS.val (oA s.e2 a x13 s.c2) (sE s.e2 a s.c2))::row (.slice a21 (s.cw++[a]).length c21) 121 4 ((s.cw++[a]).flatMap ca.list)::H) w:=cJ.st inferInstance w h;have h2:=St.AE h1;exact cJ.st (H:=dX (bQ (.slice x13.a x13.l.length x13.c)++s.fp) ⟨x13::s.bs,[],[]⟩::aF p (.cells (bu.mk s.room (some s.r1) (some s.r2) ⟨a21,(s.cw++[a]).length,c21⟩ (iN s.dE) false).cells 77 (0,0))::aF s.r1 (cF encS BS.val s.e1 s.c1)::aF s.r2 (cF encS BS.val (oA s.e2 a x13 s.c2) (sE s.e2 a s.c2))::row (.slice a21 (s.cw++[a]).length c21) 121 4 ((s.cw++[a]).flatMap ca.list)::H) inferInstance w h2
theorem FA{N M:Nat}(hok:s.Ok N M)(hN:N<=1000000)(hM:M<=2000000000){a:ca}(ha:a.b∈s.bs):CT prog w0 (DS.H p s H) 217 [.pointer (some ⟨p,0,none⟩),.agg a.cells] (α:=DS×Int) (fun y=> .int .i64 y.2) (fun y=>pu (JX s a y.1 y.2)::DS.H p y.1 H):=by
 refine al func217 rfl ntmps217 rfl (gG ?_);refine ze rfl (aZ rfl (fun b3=>gG ?_));refine aU p ?_;refine ze rfl (zc (Ke hok.pg) rfl (fun x6=>gG ?_));refine yC ?_ ?_<;>intro h7 p7
 ·refine gG ?_;have hbd:ll s.dE s.down=true:=by simpa using h7
  rw[hbd];exact zX ({s with dE:=iN s.dE,down:=true},14) [_] results217 ⟨rfl,trivial⟩ rfl (fun w hw=>St.aC (SB w hw) (.inl ⟨hbd,rfl,rfl⟩))
 have hbd:ll s.dE s.down=false:=by simpa using h7
 rw[hbd];refine gG ?_;refine dw (aF b3 (.cells a.cells 121 (0,0))::xu p {s with dE:=iN s.dE,down:=false}::H) [(0,true),(1,true),(2,true),(3,true),(4,true),(5,false)] (fun hns0=>?_);refine gA ?_;refine km s.r2 ?_;refine cX rfl rfl (zc (MX (r:=s.r2) (es:=s.e2) (c:=s.c2) (a:=a) (ro:=ju.get (ls:=s.bs) inferInstance (jL hok.oH hok.zero _)) (rb:=ju.get (ls:=s.bs) inferInstance ha) (by have h1:=hok.len _ (jL hok.oH hok.zero a.name);have h2:=hok.len _ ha;omega)) rfl (fun x13=>⟨SB,?_⟩));refine im (fun hx=>?_);refine gA ?_;refine jC (aF b3 (.cells a.cells 121 (0,0))::H) kr SB (bz (i:=0) kr rfl kr kr (zm (.pointer _) rfl) rfl (bz (i:=1) kr rfl kr kr (zm (.pointer _) rfl) rfl (bz (i:=2) kr rfl kr kr (aN rfl) rfl (bz (i:=3) kr rfl kr kr (zf 3 rfl rfl) rfl (bz (i:=5) kr rfl kr kr (zn rfl rfl) rfl ?_)))));refine nn (i:=4) (j:=6) kr ?_ ?_
 ·refine aaG ?_;refine adJ ?_;refine cq rfl rfl (cr (m:=([a]:List ca).length) [.agg a.cells] (([a]:List ca).flatMap ca.list) rfl rfl rfl rfl (by simp[Value.cells,ca.size]) rfl rfl (fun a20 c20=>⟨SB,?_⟩));refine ab2 ?_;refine cq rfl rfl (cp ca.list (sv:= .slice _ _ _) (xv:= .slice _ _ _) (xs:=s.cw) (ys:=[a]) ca.ae ca.aS rfl rfl (by have:=hok.np;simp;omega) rfl rfl (fun a21 c21=>⟨SB,?_⟩));refine aeM ?_;refine adZ ?_;refine aaN ?_;refine ZC ?_;refine zX ({s with dE:=iN s.dE,down:=false,e2:=oA s.e2 a x13 s.c2,c2:=sE s.e2 a s.c2,cw:=s.cw++[a],pa:=a21,pc:=c21,fp:=bQ (.slice x13.a x13.l.length x13.c)++s.fp,bs:=x13::s.bs},0) [_] results217 ⟨rfl,trivial⟩ rfl (fun w hw=>St.aC ?_ (.inr ⟨hbd,rfl,x13,a21,c21,_,hx,rfl⟩));exact Fa hw
 refine cq rfl rfl (cr (m:=([a]:List ca).length) [.agg a.cells] (([a]:List ca).flatMap ca.list) rfl rfl rfl rfl (by simp[Value.cells,ca.size]) rfl rfl (fun a20 c20=>⟨SB,?_⟩));refine acZ ?_;refine aaG ?_;refine ab2 ?_;refine cq rfl rfl (cp ca.list (sv:= .slice _ _ _) (xv:= .slice _ _ _) (xs:=s.cw) (ys:=[a]) ca.ae ca.aS rfl rfl (by have:=hok.np;simp;omega) rfl rfl (fun a21 c21=>⟨SB,?_⟩));refine aeM ?_;refine adZ ?_;refine aaN ?_;refine ZC ?_;refine zX ({s with dE:=iN s.dE,down:=false,e2:=oA s.e2 a x13 s.c2,c2:=sE s.e2 a s.c2,cw:=s.cw++[a],pa:=a21,pc:=c21,fp:=bQ (.slice x13.a x13.l.length x13.c)++s.fp,bs:=x13::s.bs},0) [_] results217 ⟨rfl,trivial⟩ rfl (fun w hw=>St.aC ?_ (.inr ⟨hbd,rfl,x13,a21,c21,_,hx,rfl⟩));exact Fa hw
end
section
variable {w0 w:World} {H:List SA} {p N M:Nat} {s:DS} {nm:ByteArray}
theorem DS.El{x:BS}{e:TypeId}(h:St w0 (row (.slice x.a x.l.length x.c) e 1 (aE x.l)::DS.H p s H) w):St w0 (DS.H p {s with fp:=bQ (.slice x.a x.l.length x.c)++s.fp,bs:=x::s.bs} H) w:=by
 have h1:St w0 (row (.slice x.a x.l.length x.c) e 1 (aE x.l)::dX s.fp ⟨s.bs,[],[]⟩::xu p s::aF s.r1 (cF encS BS.val s.e1 s.c1)::aF s.r2 (cF encS BS.val s.e2 s.c2)::A4 s::H) w:=cJ.st inferInstance w h;have h2:=St.AE h1;exact cJ.st (H:=dX (bQ (.slice x.a x.l.length x.c)++s.fp) ⟨x::s.bs,[],[]⟩::xu p s::aF s.r1 (cF encS BS.val s.e1 s.c1)::aF s.r2 (cF encS BS.val s.e2 s.c2)::A4 s::H) inferInstance w h2
theorem DS.Ok.El(h:s.Ok N M){x:BS}{fp:List Nat}(hx:x.l.length<=M):({s with fp:=fp,bs:=x::s.bs}:DS).Ok N M:=
 ⟨h.qk,h.gR,fun e he=>Xa _ (h.Av e he),fun e he=>Xa _ (h.oH e he),fun a ha=>Xa _ (h.xd a ha),Xa _ h.zero,
   fun y hy=>by rcases Xg.1 hy with rfl|hy;exact hx;exact h.len y hy,h.short,h.n1,h.n2,h.np,h.oB,h.nk,h.pg⟩
def uq(k:Int)(less:Nat)(s:DS)(nm:ByteArray)(b:List UInt8)(s':DS)(e:Int):Prop:=
 (s.down=true/\e=14/\s'=s)∨(s.down=false/\jI nm=false/\e=15/\s'=s)∨(s.down=false/\jI nm=true/\Iv s.room s.e2 b.length less=false/\e=4/\s'=s)∨
 (s.down=false/\jI nm=true/\Iv s.room s.e2 b.length less=true/\∃(cl:BS)(fp:List Nat),cl.l=b/\JX {s with fp:=fp,bs:=cl::s.bs} ⟨k,nm,⟨#[]⟩,cl⟩ s' e)
def MZ(a:ca)(ok:Bool)(s:DS)(s':DS)(e:Int):Prop:=
 (s.down=true/\e=14/\s'=s)∨(s.down=false/\ok=false/\e=15/\s'=s)∨(s.down=false/\ok=true/\eZ s.e2 a.name=false/\e=13/\s'=s)∨(s.down=false/\ok=true/\eZ s.e2 a.name=true/\JX s a s' e)
def rM(s s':DS):Prop:=
 (ll s.dE s.down=true/\s'= {s with dE:=iN s.dE,down:=true})∨
 (ll s.dE s.down=false/\∃q1 q2:Nat,s'= {s with dE:=iN s.dE,down:=false,r1:=q1,r2:=q2,e1:=s.e2,c1:=s.c2,cw:=[],pa:=none,pc:=0})
theorem HI(hok:s.Ok N M)(hN:N<=1000000)(hM:M<=2000000000){b:BS}(hb:b.l.length<=2000000)(hbM:b.l.length<=M)[rb:dT w0 H (.slice b.a b.l.length b.c) b.l]:CT prog w0 (DS.H p s H) 142 [.pointer (some ⟨p,0,none⟩),.string nm,.slice b.a b.l.length b.c] (α:=DS×Int) (fun y=> .int .i64 y.2) (fun y=>pu (uq 1 0 s nm b.l y.1 y.2)::DS.H p y.1 H):=by
 refine al func142 rfl ntmps142 rfl (gG ?_);refine Zm ?_;refine yC ?_ ?_<;>intro h7 p7
 ·
  cases h7
 refine gG ?_;refine yC ?_ ?_<;>intro h10 p10<;>refine gG ?_
 ·exact zX (s,14) [_] results142 ⟨rfl,trivial⟩ rfl (fun w hw=>St.aC (SB w hw) (.inl ⟨h10,rfl,rfl⟩))
 refine ze rfl (zc (ru) rfl (fun x17=>gG ?_));refine yC ?_ ?_<;>intro h15 p15<;>refine gG ?_
 ·exact zX (s,15) [_] results142 ⟨rfl,trivial⟩ rfl (fun w hw=>St.aC (SB w hw) (.inr (.inl ⟨h10,by simpa using h15,rfl,rfl⟩)))
 refine aU s.r2 (aU p ?_);refine ze rfl (zc (HL (r:=s.r2) (es:=s.e2) (c:=s.c2) (less:=((0:Nat):Int)) hok.gR (hok.size hN hM) ⟨hok.oB,hok.nk⟩ ⟨om,om⟩) rfl (fun x23=>gG ?_));refine yC ?_ ?_<;>intro h19 p19<;>refine gG ?_
 ·exact zX (s,4) [_] results142 ⟨rfl,trivial⟩ rfl (fun w hw=>St.aC (SB w hw) (.inr (.inr (.inl ⟨h10,by simpa using h15,by simpa using h19,rfl,rfl⟩))))
 refine ze rfl (zc (jc om) rfl (fun x28=>?_));refine ez (fun w hw=>DS.El (p:=p) (s:=s) (x:=⟨x28.a,x28.c,b.l⟩) (e:=5) (H:=H) (SB w hw)) ?_;refine ae8 ?_;refine ze rfl (zc (FA (s:= {s with fp:=bQ (.slice x28.a b.l.length x28.c)++s.fp,bs:=⟨x28.a,x28.c,b.l⟩::s.bs}) (hok.El (by show b.l.length<=M;omega)) hN hM (a:=⟨1,nm,⟨#[]⟩,⟨x28.a,x28.c,b.l⟩⟩) (XF ..)) rfl (fun x30=>?_));refine aV (fun hd=>?_);refine gG ?_;exact zX x30 [_] results142 ⟨rfl,trivial⟩ rfl (fun w hw=>St.aC (SB w hw) (.inr (.inr (.inr ⟨h10,by simpa using h15,by simpa using h19,⟨x28.a,x28.c,b.l⟩,_,rfl,hd⟩))))
theorem uC(hok:s.Ok N M)(hN:N<=1000000)(hM:M<=2000000000){b:BS}(hb:b.l.length<=2000000)(hbM:b.l.length<=M)[rb:dT w0 H (.slice b.a b.l.length b.c) b.l]:CT prog w0 (DS.H p s H) 128 [.pointer (some ⟨p,0,none⟩),.string nm,.slice b.a b.l.length b.c] (α:=DS×Int) (fun y=> .int .i64 y.2) (fun y=>pu (uq 2 (gl s.e2 nm).l.length s nm b.l y.1 y.2)::DS.H p y.1 H):=by
 refine al func128 rfl ntmps128 rfl (gG ?_);refine Zm ?_;refine yC ?_ ?_<;>intro h7 p7
 ·
  cases h7
 refine gG ?_;refine yC ?_ ?_<;>intro h10 p10<;>refine gG ?_
 ·exact zX (s,14) [_] results128 ⟨rfl,trivial⟩ rfl (fun w hw=>St.aC (SB w hw) (.inl ⟨h10,rfl,rfl⟩))
 refine ze rfl (zc (ru) rfl (fun x17=>gG ?_));refine yC ?_ ?_<;>intro h15 p15<;>refine gG ?_
 ·exact zX (s,15) [_] results128 ⟨rfl,trivial⟩ rfl (fun w hw=>St.aC (SB w hw) (.inr (.inl ⟨h10,by simpa using h15,rfl,rfl⟩)))
 refine zq (lZ (key:=nm) (enc:=encS) (ev:=BS.val) (zB) rfl rfl underlying74 rl) rfl ?_;rw[show(eu s.e2 nm).getD zB=gl s.e2 nm from rfl];refine gG ?_;refine aU s.r2 (aU p ?_);refine ze rfl (zc (HL (r:=s.r2) (es:=s.e2) (c:=s.c2) (less:=(((gl s.e2 nm).l.length:Nat):Int)) hok.gR (hok.size hN hM) ⟨hok.oB,hok.nk⟩ ⟨om,by have:=hok.len _ (jL hok.oH hok.zero nm);omega⟩) rfl (fun x30=>gG ?_));refine yC ?_ ?_<;>intro h19 p19<;>refine gG ?_
 ·exact zX (s,4) [_] results128 ⟨rfl,trivial⟩ rfl (fun w hw=>St.aC (SB w hw) (.inr (.inr (.inl ⟨h10,by simpa using h15,by simpa using h19,rfl,rfl⟩))))
 refine ze rfl (zc (jc om) rfl (fun x35=>?_));refine ez (fun w hw=>DS.El (p:=p) (s:=s) (x:=⟨x35.a,x35.c,b.l⟩) (e:=5) (H:=H) (SB w hw)) ?_;refine ae8 ?_;refine ze rfl (zc (FA (s:= {s with fp:=bQ (.slice x35.a b.l.length x35.c)++s.fp,bs:=⟨x35.a,x35.c,b.l⟩::s.bs}) (hok.El (by show b.l.length<=M;omega)) hN hM (a:=⟨2,nm,⟨#[]⟩,⟨x35.a,x35.c,b.l⟩⟩) (XF ..)) rfl (fun x37=>?_));refine aV (fun hd=>?_);refine gG ?_;exact zX x37 [_] results128 ⟨rfl,trivial⟩ rfl (fun w hw=>St.aC (SB w hw) (.inr (.inr (.inr ⟨h10,by simpa using h15,by simpa using h19,⟨x35.a,x35.c,b.l⟩,_,rfl,hd⟩))))
theorem Bq{r c:Nat}{es:FM}{room:Int}{nw:Option Nat}{pe:Sl}{dE:Int}{down:Bool}:CT prog w0 (aF p (.cells (bu.mk room (some r) nw pe dE down).cells 77 (0,0))::aF r (cF encS BS.val es c)::H) 50 [.pointer (some ⟨p,0,none⟩)] (α:=Nat) (fun _=> .tuple #[]) (fun q=>aF p (.cells (bu.mk room (some r) (some q) ⟨none,0,0⟩ dE down).cells 77 (0,0))::aF q (cF encS BS.val es c)::aF r (cF encS BS.val es c)::H):=by
 refine al func50 rfl ntmps50 rfl (gG ?_);refine aaM ?_;refine aU r ?_;refine ze rfl (zc (Bc) rfl (fun x10=>gG ?_));refine ain ?_;exact zX x10 [] results50 trivial rfl SB
theorem HM{x14 x18:Nat}{f:Int}{d:Bool}
   (h:St w0 (aF p (.cells (bu.mk s.room (some x14) (some x18) ⟨none,0,0⟩ f d).cells 77 (0,0))::aF x18 (cF encS BS.val s.e2 s.c2)::aF x14 (cF encS BS.val s.e2 s.c2)::aF s.r2 (cF encS BS.val s.e2 s.c2)::aF s.r1 (cF encS BS.val s.e1 s.c1)::A4 s::dX s.fp ⟨s.bs,[],[]⟩::H) w):St w0 (DS.H p {s with dE:=f,down:=d,r1:=x14,r2:=x18,e1:=s.e2,c1:=s.c2,cw:=[],pa:=none,pc:=0} H) w:=by
 have h1:St w0 (aF p (.cells (bu.mk s.room (some x14) (some x18) ⟨none,0,0⟩ f d).cells 77 (0,0))::aF x14 (cF encS BS.val s.e2 s.c2)::aF x18 (cF encS BS.val s.e2 s.c2)::dX s.fp ⟨s.bs,[],[]⟩::H) w:=cJ.st inferInstance w h;have h2:=h1.cT 121 4;exact cJ.st (H:=row (.slice none 0 0) 121 4 []::aF p (.cells (bu.mk s.room (some x14) (some x18) ⟨none,0,0⟩ f d).cells 77 (0,0))::aF x14 (cF encS BS.val s.e2 s.c2)::aF x18 (cF encS BS.val s.e2 s.c2)::dX s.fp ⟨s.bs,[],[]⟩::H) (H':=aF p (.cells (bu.mk s.room (some x14) (some x18) ⟨none,0,0⟩ f d).cells 77 (0,0))::aF x14 (cF encS BS.val s.e2 s.c2)::aF x18 (cF encS BS.val s.e2 s.c2)::row (.slice none 0 0) 121 4 []::dX s.fp ⟨s.bs,[],[]⟩::H) inferInstance w h2
theorem pf(hok:s.Ok N M)(hN:N<=1000000)(hM:M<=2000000000):CT prog w0 (DS.H p s H) 129 [.pointer (some ⟨p,0,none⟩)] (α:=DS) (fun _=> .tuple #[]) (fun y=>pu (rM s y)::DS.H p y H):=by
 refine al func129 rfl ntmps129 rfl (gG ?_);refine Zm ?_;refine yS 4 ?_ ?_<;>intro h4 p4
 ·
  cases h4
 refine gG ?_;refine aU p ?_;refine gG ?_;refine ze rfl (zc (Ke hok.pg) rfl (fun x6=>gG ?_));refine yC ?_ ?_<;>intro h8 p8
 ·refine gG ?_;have hbd:ll s.dE s.down=true:=by simpa using h8
  rw[hbd];exact zX ({s with dE:=iN s.dE,down:=true}) [] results129 trivial rfl (fun w hw=>St.aC (SB w hw) (.inl ⟨hbd,rfl⟩))
 have hbd:ll s.dE s.down=false:=by simpa using h8
 rw[hbd];refine gG ?_;refine aU s.r2 ?_;refine ze rfl (zc (Bc (r:=s.r2)) rfl (fun x14=>gG ?_));refine ain ?_;refine aU x14 (aU p ?_);refine ze rfl (zc (Bq (r:=x14) (es:=s.e2) (c:=s.c2)) rfl (fun x18=>gG ?_));exact zX ({s with dE:=iN s.dE,down:=false,r1:=x14,r2:=x18,e1:=s.e2,c1:=s.c2,cw:=[],pa:=none,pc:=0}) [] results129 trivial rfl (fun w hw=>St.aC (HM hw) (.inr ⟨hbd,x14,x18,rfl⟩))
theorem uz(hok:s.Ok N M)(hN:N<=1000000)(hM:M<=2000000000):CT prog w0 (DS.H p s H) 57 [.pointer (some ⟨p,0,none⟩),.string nm] (α:=AC) (fun y=> .tuple #[.slice y.a (gl s.e2 nm).l.length y.c,.int .i64 (if eZ s.e2 nm=true then 0 else 13)]) (fun y=>row (.slice y.a (gl s.e2 nm).l.length y.c) 5 1 (aE (gl s.e2 nm).l)::DS.H p s H):=by
 refine al func57 rfl ntmps57 rfl (gG ?_);refine Zm ?_;refine yC ?_ ?_<;>intro h9 p9
 ·
  cases h9
 refine gG ?_;refine aeY ?_;rw[show(eu s.e2 nm).getD zB=gl s.e2 nm from rfl];refine gG ?_;refine yC ?_ ?_<;>intro h20 p20<;>refine gG ?_
 ·have hh:eZ s.e2 nm=false:=by simpa using h20
  have ho:gl s.e2 nm=zB:=by unfold gl;unfold eZ at hh;cases hg:eu s.e2 nm with
   |none=>rfl
   |some v=>rw[hg]at hh;cases hh
  rw[ho,hh];exact zX ⟨none,0⟩ [_,_] results57 ⟨rfl,rfl,trivial⟩ rfl (fun w hw=>(SB w hw:St w0 (DS.H p s H) w).cP 5)
 refine ze rfl (zc (jc (hr:=ju.get (ls:=s.bs) inferInstance (jL hok.oH hok.zero nm)) (by have:=hok.len _ (jL hok.oH hok.zero nm);omega)) rfl (fun x22=>gG ?_));have hh:eZ s.e2 nm=true:=abc;rw[hh];exact zX x22 [_,_] results57 ⟨rfl,rfl,trivial⟩ rfl SB
def qN(n:Int):Int:=if (if (1048576:Int)<n then 1048576 else n)>0 then(if (1048576:Int)<n then 1048576 else n)else 0
def oE(r1 r2:Nat)(n:Int):DS:=⟨r1,r2,[],0,[],0,none,0,[],qN n,-1,false,[],[zB]⟩
theorem Am(r1 r2:Nat)(n:Int):(oE r1 r2 n).Ok 0 0:=⟨eQ.nil,eQ.nil,(fun _ h=>by cases h),(fun _ h=>by cases h),(fun _ h=>by cases h),by simp[oE],(fun x hx=>by obtain rfl:x=zB:=(by simpa[oE]using hx);exact W8 _),(fun _ h=>by cases h),W8 _,W8 _,W8 _,by unfold oE qN;simp only;split<;>split<;>omega,by unfold oE qN;simp only;split<;>split<;>omega,by show(-1:Int)<=9223372036854775807;decide⟩
theorem St.PD(h:St w0 H w):St w0 (dX [] ⟨[zB],[],[]⟩::H) w:=
 h.iw.Hq rfl fun _=>⟨fun y hy=>(by
   obtain rfl:y=zB:=(by simpa using hy);exact⟨none,0,0,rfl,rfl,W8 _,by unfold maxLen;omega,fun h=>absurd h (by simp[zB])⟩),fun _ h=>acX,fun _ h=>acX,fun _ h=>acX⟩
theorem KC{r1 r2:Nat}{n:Int}(h:St w0 (aF p (.cells (bu.mk (qN n) (some r1) (some r2) ⟨none,0,0⟩ (-1) false).cells 77 (0,0))::aF r2 (cF encS BS.val [] 0)::aF r1 (cF encS BS.val [] 0)::H) w):St w0 (DS.H p (oE r1 r2 n) H) w:=by
 have h2:=(St.PD h).cT 121 4;exact cJ.st (H:=row (.slice none 0 0) 121 4 []::dX [] ⟨[zB],[],[]⟩::aF p (.cells (bu.mk (qN n) (some r1) (some r2) ⟨none,0,0⟩ (-1) false).cells 77 (0,0))::aF r2 (cF encS BS.val [] 0)::aF r1 (cF encS BS.val [] 0)::H) (H':=aF p (.cells (bu.mk (qN n) (some r1) (some r2) ⟨none,0,0⟩ (-1) false).cells 77 (0,0))::aF r1 (cF encS BS.val [] 0)::aF r2 (cF encS BS.val [] 0)::row (.slice none 0 0) 121 4 []::dX [] ⟨[zB],[],[]⟩::H) inferInstance w h2
theorem Ks{n:Int}:CT prog w0 (H) 7 [.int .i64 n] (α:=Nat×Nat×Nat) (fun y=> .pointer (some ⟨y.1,0,none⟩)) (fun y=>DS.H y.1 (oE y.2.1 y.2.2 n) H):=by
 refine al func7 rfl ntmps7 rfl (gG ?_);refine aen ?_;rw[show(if (if (1048576:Int)<n then(1048576:Int)else n)>0 then(if (1048576:Int)<n then(1048576:Int)else n)else 0)=qN n from rfl];refine ze rfl (mj encS BS.val (fun r6=>?_));refine ze rfl (mj encS BS.val (fun r7=>?_));refine zq (aA [(0,(.int .i64 _)),(1,(.map _)),(2,(.map _)),(4,(.int .i64 _))] rfl kr) rfl ?_;refine ze rfl (aZ rfl (fun b9=>gG ?_));exact zX (b9,r6,r7) [_] results7 ⟨rfl,trivial⟩ rfl (fun w hw=>KC (SB w hw))
end
section
variable {s s':DS} {M N c p:Nat} {a:ca} {es:FM} {x:BS} {nm:ByteArray} {e:Int} {w0:World} {H:List SA}
theorem iX{κ ν:Type}[DecidableEq κ](e:iK κ ν)(es:List (iK κ ν))(k:κ):eu (e::es) k=if k=e.k then some e.v else eu es k:=by
 unfold eu;by_cases h:k=e.k<;>simp[YM,h]
theorem mC:∀(es:FM)(k key:ByteArray)(v:BS)(c:Nat),key≠k->eu (fZ es k v c) key=eu es key
 |[],k,key,v,c,h=>by simp[fZ,eu,h]
 |e::es,k,key,v,c,h=>by
   unfold fZ
   split
   · rename_i hk;subst hk;rw[iX,iX,if_neg h,if_neg h]
   · rw[iX,iX,mC es k key v c h]
theorem tM:∀(es:FM)(k:ByteArray)(v:BS)(c:Nat),eu (fZ es k v c) k=some v
 |[],k,v,c=>by simp[fZ,eu]
 |e::es,k,v,c=>by
   unfold fZ
   split
   · rw[iX,if_pos rfl]
   · rename_i hk;rw[iX,if_neg hk,tM es k v c]
theorem mA:∀(es:FM)(k key:ByteArray),key≠k->eu (ji es k) key=eu es key
 |[],k,key,h=>rfl
 |e::es,k,key,h=>by
   unfold ji
   split
   · rename_i hk;subst hk;rw[iX,if_neg h]
   · rw[iX,iX,mA es k key h]
theorem IN{key:ByteArray}(h1:a.name≠key)(h2:a.to≠key):eu (oA es a x c) key=eu es key:=by
 have h1':=Ne.symm h1;have h2':=Ne.symm h2;unfold oA
 split
 · exact mC _ _ _ _ _ h1'
 · split
   · split
     · rw[mC _ _ _ _ _ h2',mA _ _ _ h1']
     · rfl
   · split
     · exact mA _ _ _ h1'
     · rfl
theorem Cv:∀(es:FM)(k:ByteArray)(v:BS)(c:Nat),eZ es k=true->(fZ es k v c).map (·.k)=es.map (·.k)/\(fZ es k v c).map (·.b)=es.map (·.b)
 |[],k,v,c,h=>by simp[eZ,eu]at h
 |e::es,k,v,c,h=>by
   unfold fZ
   split
   · rename_i hk;exact⟨by simp[hk],sm⟩
   · rename_i hk
     have h1:eZ es k=true:=by simpa[eZ,eu,YM,hk]using h
     have:=Cv es k v c h1;exact⟨by simp[this.1],by simp[this.2]⟩
theorem HT(es:FM)(k:ByteArray)(v:BS)(c:Nat)(h:eQ es c)(hh:eZ es k=false):eQ (fZ es k v c) (c+1):=by
 rw[lO _ _ _ _ hh];refine⟨?_,?_,?_⟩
 · rw[Xi]
   refine Y3.2 ⟨h.keys,sm,fun a ha b hb=>?_⟩;obtain rfl:b=k:=ad5;rintro rfl;obtain⟨e,he,hek⟩:=Xd.1 ha;have:(eu es a).isSome=true:=by
     simp only[eu,Option.isSome_map];rw[List.find?_isSome];exact⟨e,he,by simp[hek]⟩
   rw[eZ,this]at hh;cases hh
 · rw[Xi]
   refine Y3.2 ⟨h.born,sm,fun a ha b hb=>?_⟩;obtain rfl:b=c:=ad5;rintro rfl;obtain⟨e,he,hek⟩:=Xd.1 ha;have:=h.lt e he;omega
 · intro e he
   rcases Xc.1 he with he|he
   · have:=h.lt e he;omega
   · obtain rfl:e=⟨k,v,c⟩:=by simpa using he
     show c<c+1;omega
theorem yQ(es:FM)(k:ByteArray)(v:BS)(c:Nat)(h:eQ es c):eQ (fZ es k v c) (gM es k c):=by
 cases hh:eZ es k with
 |false=>unfold gM;rw[hh];exact HT es k v c h hh
 |true=>
   have hm:=Cv es k v c hh;unfold gM;rw[hh];refine⟨by rw[hm.1];exact h.keys,by rw[hm.2];exact h.born,fun e he=>?_⟩;have hb:e.b∈(fZ es k v c).map (·.b):=Xd.2 ⟨e,he,rfl⟩;rw[hm.2]at hb;obtain⟨e',he',hb'⟩:=Xd.1 hb;have:=h.lt e' he';simp only[cond_true];omega
theorem lv:∀(es:FM)(k:ByteArray),(ji es k).Sublist es
 |[],k=>Y0 _
 |e::es,k=>by
   unfold ji
   split
   · exact List.sublist_cons_self _ _
   · exact(lv es k).cons_cons e
theorem xU(h:eQ es c)(k:ByteArray):eQ (ji es k) c:=
 ⟨h.keys.sublist ((lv es k).map _),h.born.sublist ((lv es k).map _),fun e he=>h.lt e ((lv es k).subset he)⟩
theorem v7(h:eQ es c):eQ (oA es a x c) (sE es a c):=by
 unfold oA sE
 split
 · exact yQ _ _ _ _ h
 · split
   · split
     · exact yQ _ _ _ _ (xU h _)
     · exact h
   · split
     · exact xU h _
     · exact h
theorem sZ:∀(es:FM)(k:ByteArray)(v:BS)(c:Nat),∀e∈fZ es k v c,e.v=v∨∃e'∈es,e.v=e'.v
 |[],k,v,c,e,he=>by
   left
   have:e=⟨k,v,c⟩:=by simpa[fZ]using he
   rw[this]
 |d::es,k,v,c,e,he=>by
   unfold fZ at he
   split at he
   · rcases Xg.1 he with rfl|he
     · exact .inl rfl
     · exact .inr ⟨e,by simp[he],rfl⟩
   · rcases Xg.1 he with rfl|he
     · exact .inr ⟨e,sm,rfl⟩
     · rcases sZ es k v c e he with h|⟨e',h1,h2⟩
       · exact .inl h
       · exact .inr ⟨e',by simp[h1],h2⟩
theorem wq{bs:List BS}(hm:∀e∈es,e.v∈bs)(hz:zB∈bs):∀e∈oA es a x c,e.v∈x::bs:=by
 intro e he;have hold:=jL hm hz;unfold oA at he
 split at he
 · rcases sZ _ _ _ _ e he with h|⟨e',h1,h2⟩
   · rw[h];simp
   · rw[h2];exact Xa _ (hm e' h1)
 · split at he
   · split at he
     · rcases sZ _ _ _ _ e he with h|⟨e',h1,h2⟩
       · rw[h];exact Xa _ (hold _)
       · rw[h2];exact Xa _ (hm e' ((lv es _).subset h1))
     · exact Xa _ (hm e he)
   · split at he
     · exact Xa _ (hm e ((lv es _).subset he))
     · exact Xa _ (hm e he)
theorem vp:∀(es:FM)(k:ByteArray)(v:BS)(c:Nat),(fZ es k v c).length<=es.length+1
 |[],k,v,c=>by simp[fZ]
 |e::es,k,v,c=>by
   unfold fZ
   split
   · simp
   · have:=vp es k v c;simp;omega
theorem AS:(oA es a x c).length<=es.length+1:=by
 unfold oA
 split
 · exact vp _ _ _ _
 · split
   · split
     · have h1:=vp (ji es a.name) a.to (gl es a.name) c
       have h2:=(lv es a.name).length_le;omega
     · omega
   · split
     · have h2:=(lv es a.name).length_le;omega
     · omega
theorem DS.Ok.mono{N' M':Nat}(h:s.Ok N M)(hN:N<=N')(hM:M<=M'):s.Ok N' M':=
 ⟨h.qk,h.gR,h.Av,h.oH,h.xd,h.zero,fun x hx=>Yk (h.len x hx) hM,h.short,Yk h.n1 hN,Yk h.n2 hN,Yk h.np hN,h.oB,h.nk,h.pg⟩
theorem mO{f:Int}(h:f<=9223372036854775807):iN f<=9223372036854775807:=by unfold iN;split<;>omega
theorem Ka{bs:List BS}(hm:∀e∈es,e.v∈bs)(hz:zB∈bs)(hl:∀x∈bs,x.l.length<=M)(ha:a.b.l.length<=2000000):(kA es a).length<=M+2000000:=by
 have h1:=hl _ (jL hm hz a.name);unfold kA
 split
 · rw[WX];omega
 · split
   · omega
   · simp
theorem JX.ok(h:JX s a s' e)(hok:s.Ok N M)(ha:a.b∈s.bs)(hb:a.b.l.length<=2000000):s'.Ok (N+1) (M+2000000):=by
 rcases h with⟨-,-,rfl⟩|⟨-,-,x,pa,pc,fp,hx,rfl⟩
 · have h1:=hok.mono (Yh N 1) (Yh M 2000000)
   exact aem
 · refine⟨hok.qk,v7 hok.gR,fun e he=>Xa _ (hok.Av e he),wq hok.oH hok.zero,fun b hb'=>?_,Xa _ hok.zero,fun y hy=>?_,fun b hb'=>?_,by have:=hok.n1;show s.e1.length<=_;omega,by have h1:=AS (es:=s.e2) (a:=a) (x:=x) (c:=s.c2);have h2:=hok.n2;show(oA s.e2 a x s.c2).length<=_;omega,by have:=hok.np;show(s.cw++[a]).length<=_;simp;omega,hok.oB,hok.nk,mO hok.pg⟩
   · rcases Xc.1 hb' with h1|h1
     · exact Xa _ (hok.xd b h1)
     · obtain rfl:b=a:=by simpa using h1
       exact Xa _ ha
   · rcases Xg.1 hy with rfl|hy
     · rw[hx];exact Ka hok.oH hok.zero hok.len hb
     · have:=hok.len y hy;omega
   · rcases Xc.1 hb' with h1|h1
     · exact hok.short b h1
     · obtain rfl:b=a:=by simpa using h1
       exact hb
theorem uq.ok{k:Int}{less:Nat}{b:List UInt8}(h:uq k less s nm b s' e)(hok:s.Ok N M)(hb:b.length<=2000000)(hbM:b.length<=M):s'.Ok (N+1) (M+2000000):=by
 have h1:=hok.mono (Yh N 1) (Yh M 2000000);rcases h with⟨-,-,rfl⟩|⟨-,-,-,rfl⟩|⟨-,-,-,-,rfl⟩|⟨-,-,-,cl,fp,hcl,hd⟩
 · exact h1
 · exact h1
 · exact h1
 · exact hd.ok (hok.El (by rw[hcl];exact hbM)) (XF ..) aic
theorem rM.ok(h:rM s s')(hok:s.Ok N M):s'.Ok N M:=by
 rcases h with⟨-,rfl⟩|⟨-,q1,q2,rfl⟩
 · exact⟨hok.qk,hok.gR,hok.Av,hok.oH,hok.xd,hok.zero,hok.len,hok.short,hok.n1,hok.n2,hok.np,hok.oB,hok.nk,mO hok.pg⟩
 · exact⟨hok.gR,hok.gR,hok.oH,hok.oH,(fun _ h=>by cases h),hok.zero,hok.len,(fun _ h=>by cases h),hok.n2,hok.n2,Xv _,hok.oB,hok.nk,mO hok.pg⟩
theorem EY:CT prog w0 (DS.H p s H) 219 [.pointer (some ⟨p,0,none⟩),.string nm] (α:=Unit) (fun _=> .bool (eZ s.e2 nm)) (fun _=>DS.H p s H):=by
 refine al func219 rfl ntmps219 rfl (gG ?_);refine aeY ?_;refine gG ?_;exact zX () [_] results219 ⟨rfl,trivial⟩ rfl SB
theorem Cb(hok:s.Ok N M)(hN:N<=1000000)(hM:M<=1000000000){to:ByteArray}:CT prog w0 (DS.H p s H) 130 [.pointer (some ⟨p,0,none⟩),.string nm,.string to] (α:=DS×Int) (fun y=> .int .i64 y.2) (fun y=>pu (MZ (⟨3,nm,to,⟨none,0,[]⟩⟩:ca) (jI nm&&jI to) s y.1 y.2)::DS.H p y.1 H):=by
 refine al func130 rfl ntmps130 rfl (gG ?_);refine Zm ?_;refine yC ?_ ?_<;>intro h7 p7
 ·
  cases h7
 refine gG ?_;refine yC ?_ ?_<;>intro h10 p10<;>refine gG ?_
 ·exact zX (s,14) [_] results130 ⟨rfl,trivial⟩ rfl (fun w hw=>St.aC (SB w hw) (.inl ⟨h10,rfl,rfl⟩))
 refine ze rfl (zc (ru) rfl (fun x17=>gG ?_));refine yS 19 ?_ ?_<;>intro h19 p19<;>refine gG ?_
 ·refine Zc ?_;exact adV
 refine ze rfl (zc (ru) rfl (fun x21=>gG ?_));refine yC ?_ ?_<;>intro h15 p15<;>refine gG ?_
 ·exact adV
 refine ze rfl (zc (EY (s:=s)) rfl (fun x27=>gG ?_));refine yC ?_ ?_<;>intro h24 p24<;>refine gG ?_
 ·exact zX (s,13) [_] results130 ⟨rfl,trivial⟩ rfl (fun w hw=>St.aC (SB w hw) (.inr (.inr (.inl ⟨h10,by simp_all,by simpa using h24,rfl,rfl⟩))))
 refine zq (aA [(0,(.int .i64 _)),(1,(.string _)),(2,(.string _))] rfl kr) rfl ?_;refine ze rfl (zc (FA (s:=s) hok hN om (a:=⟨3,nm,to,⟨none,0,[]⟩⟩) hok.zero) rfl (fun x33=>?_));refine aV (fun hd=>?_);refine gG ?_;exact zX x33 [_] results130 ⟨rfl,trivial⟩ rfl (fun w hw=>St.aC (SB w hw) (.inr (.inr (.inr ⟨h10,by simp_all,by simpa using h24,hd⟩))))
theorem CR(hok:s.Ok N M)(hN:N<=1000000)(hM:M<=1000000000):CT prog w0 (DS.H p s H) 131 [.pointer (some ⟨p,0,none⟩),.string nm] (α:=DS×Int) (fun y=> .int .i64 y.2) (fun y=>pu (MZ (⟨4,nm,⟨#[]⟩,⟨none,0,[]⟩⟩:ca) (jI nm) s y.1 y.2)::DS.H p y.1 H):=by
 refine al func131 rfl ntmps131 rfl (gG ?_);refine Zm ?_;refine yC ?_ ?_<;>intro h5 p5
 ·
  cases h5
 refine gG ?_;refine yC ?_ ?_<;>intro h8 p8<;>refine gG ?_
 ·exact zX (s,14) [_] results131 ⟨rfl,trivial⟩ rfl (fun w hw=>St.aC (SB w hw) (.inl ⟨h8,rfl,rfl⟩))
 refine ze rfl (zc (ru) rfl (fun x15=>gG ?_));refine yC ?_ ?_<;>intro h13 p13<;>refine gG ?_
 ·exact zX (s,15) [_] results131 ⟨rfl,trivial⟩ rfl (fun w hw=>St.aC (SB w hw) (.inr (.inl ⟨h8,by simpa using h13,rfl,rfl⟩)))
 refine ze rfl (zc (EY (s:=s)) rfl (fun x20=>gG ?_));refine yC ?_ ?_<;>intro h17 p17<;>refine gG ?_
 ·exact zX (s,13) [_] results131 ⟨rfl,trivial⟩ rfl (fun w hw=>St.aC (SB w hw) (.inr (.inr (.inl ⟨h8,by simpa using h13,by simpa using h17,rfl,rfl⟩))))
 refine zq (aA [(0,(.int .i64 _)),(1,(.string _))] rfl kr) rfl ?_;refine ze rfl (zc (FA (s:=s) hok hN om (a:=⟨4,nm,⟨#[]⟩,⟨none,0,[]⟩⟩) hok.zero) rfl (fun x25=>?_));refine aV (fun hd=>?_);refine gG ?_;exact zX x25 [_] results131 ⟨rfl,trivial⟩ rfl (fun w hw=>St.aC (SB w hw) (.inr (.inr (.inr ⟨h8,by simpa using h13,by simpa using h17,hd⟩))))
theorem MZ.ok{ok:Bool}(h:MZ a ok s s' e)(hok:s.Ok N M)(ha:a.b=zB):s'.Ok (N+1) (M+2000000):=by
 have h1:=hok.mono (Yh N 1) (Yh M 2000000);rcases h with⟨-,-,rfl⟩|⟨-,-,-,rfl⟩|⟨-,-,-,-,rfl⟩|⟨-,-,-,hd⟩
 · exact h1
 · exact h1
 · exact h1
 · exact hd.ok hok (by rw[ha];exact hok.zero) (by rw[ha];exact Xv _)
end
section
open Go.Maps Go.Sort Go.Shelf
def vx:Go.Shelf.Ren:=⟨fun|7=>120|10=>198|n=>n,fun|23=>74|26=>9|3=>47|28=>214|0=>0|27=>213|33=>144|4=>4|n=>n,fun|n=>n⟩
theorem JN:Go.Proofs.SlLaysZ.n7 prog vx where
 mixed:=kr
 f7:=⟨Tryz.f120.name,dc,Tryz.func120.trans (congrArg some kr)⟩
 f10:=⟨Tryz.f198.name,dc,Tryz.func198.trans (congrArg some kr)⟩
 t0:=underlying0
 a0:=Tryz.isAgg0
 z0:=Tryz.sizeOf0
 v0:=Tryz.zeroValue0
 t4:=underlying4
 a4:=Tryz.isAgg4
 z4:=Tryz.sizeOf4
 v4:=Tryz.zeroValue4
 t23:=underlying74
 a23:=Tryz.isAgg74
 z23:=Tryz.sizeOf74
 v23:=Tryz.zeroValue74
 t26:=underlying9
 a26:=Tryz.isAgg9
 z26:=Tryz.sizeOf9
 v26:=Tryz.zeroValue9
 t27:=underlying213
 a27:=Tryz.isAgg213
 z27:=Tryz.sizeOf213
 v27:=Tryz.zeroValue213
 t28:=underlying214
 a28:=Tryz.isAgg214
 z28:=Tryz.sizeOf214
 v28:=Tryz.zeroValue214
 t33:=underlying144
 a33:=Tryz.isAgg144
 z33:=Tryz.sizeOf144
 v33:=Tryz.zeroValue144
def se:Go.Shelf.Ren:=⟨fun|6=>119|8=>196|9=>197|11=>245|13=>125|12=>246|23=>212|24=>213|14=>270|15=>271|16=>272|17=>273|18=>274|19=>275|20=>276|21=>277|22=>278|25=>295|26=>255|27=>256|28=>296|29=>297|30=>298|31=>308|n=>n,fun|26=>9|28=>214|24=>148|0=>0|3=>3|37=>224|48=>275|50=>58|4=>4|40=>306|39=>305|45=>311|5=>5|9=>9|51=>345|55=>196|57=>371|58=>181|33=>144|n=>n,fun|n=>n⟩
theorem Jz:Go.Proofs.SlLaysZ.n6 prog se where
 mixed:=kr
 f6:=⟨Tryz.f119.name,dc,Tryz.func119.trans (congrArg some kr)⟩
 f8:=⟨Tryz.f196.name,dc,Tryz.func196.trans (congrArg some kr)⟩
 f11:=⟨Tryz.f245.name,dc,Tryz.func245.trans (congrArg some kr)⟩
 t0:=underlying0
 a0:=Tryz.isAgg0
 z0:=Tryz.sizeOf0
 v0:=Tryz.zeroValue0
 t24:=underlying148
 a24:=Tryz.isAgg148
 z24:=Tryz.sizeOf148
 v24:=Tryz.zeroValue148
 t26:=underlying9
 a26:=Tryz.isAgg9
 z26:=Tryz.sizeOf9
 v26:=Tryz.zeroValue9
 t28:=underlying214
 a28:=Tryz.isAgg214
 z28:=Tryz.sizeOf214
 v28:=Tryz.zeroValue214
 i26:=kr
def CY:Go.Shelf.Ren:=⟨fun|6=>197|8=>125|9=>246|19=>212|20=>213|21=>270|22=>271|23=>272|24=>273|25=>274|26=>275|27=>276|28=>277|29=>278|36=>295|31=>255|32=>256|37=>296|38=>297|39=>298|41=>308|n=>n,fun|27=>148|29=>9|3=>3|32=>224|26=>148|0=>0|44=>275|46=>58|4=>4|36=>306|35=>305|41=>311|5=>5|9=>9|53=>345|57=>196|63=>371|64=>181|n=>n,fun|n=>n⟩
theorem FR:Go.Proofs.SlLaysM.n6 prog CY where
 mixed:=kr
 f6:=⟨Tryz.f197.name,dc,Tryz.func197.trans (congrArg some kr)⟩
 f8:=Tryz.func125.trans (congrArg some kr)
 f9:=⟨Tryz.f246.name,dc,Tryz.func246.trans (congrArg some kr)⟩
 f19:=Tryz.func212.trans (congrArg some kr)
 f20:=Tryz.func213.trans (congrArg some kr)
 f21:=⟨Tryz.f270.name,dc,Tryz.func270.trans (congrArg some kr)⟩
 f22:=⟨Tryz.f271.name,dc,Tryz.func271.trans (congrArg some kr)⟩
 f23:=⟨Tryz.f272.name,dc,Tryz.func272.trans (congrArg some kr)⟩
 f24:=⟨Tryz.f273.name,dc,Tryz.func273.trans (congrArg some kr)⟩
 f25:=⟨Tryz.f274.name,dc,Tryz.func274.trans (congrArg some kr)⟩
 f26:=⟨Tryz.f275.name,dc,Tryz.func275.trans (congrArg some kr)⟩
 f27:=⟨Tryz.f276.name,dc,Tryz.func276.trans (congrArg some kr)⟩
 f28:=⟨Tryz.f277.name,dc,Tryz.func277.trans (congrArg some kr)⟩
 f29:=⟨Tryz.f278.name,dc,Tryz.func278.trans (congrArg some kr)⟩
 f31:=Tryz.func255.trans (congrArg some kr)
 f32:=Tryz.func256.trans (congrArg some kr)
 f36:=⟨Tryz.f295.name,dc,Tryz.func295.trans (congrArg some kr)⟩
 f37:=⟨Tryz.f296.name,dc,Tryz.func296.trans (congrArg some kr)⟩
 f38:=⟨Tryz.f297.name,dc,Tryz.func297.trans (congrArg some kr)⟩
 f39:=⟨Tryz.f298.name,dc,Tryz.func298.trans (congrArg some kr)⟩
 f41:=⟨Tryz.f308.name,dc,Tryz.func308.trans (congrArg some kr)⟩
 t0:=underlying0
 a0:=Tryz.isAgg0
 z0:=Tryz.sizeOf0
 v0:=Tryz.zeroValue0
 t3:=underlying3
 a3:=Tryz.isAgg3
 z3:=Tryz.sizeOf3
 v3:=Tryz.zeroValue3
 t4:=underlying4
 a4:=Tryz.isAgg4
 z4:=Tryz.sizeOf4
 v4:=Tryz.zeroValue4
 t5:=underlying5
 a5:=Tryz.isAgg5
 z5:=Tryz.sizeOf5
 v5:=Tryz.zeroValue5
 t9:=underlying9
 a9:=Tryz.isAgg9
 z9:=Tryz.sizeOf9
 v9:=Tryz.zeroValue9
 t26:=underlying148
 a26:=Tryz.isAgg148
 z26:=Tryz.sizeOf148
 v26:=Tryz.zeroValue148
 t27:=underlying148
 a27:=Tryz.isAgg148
 z27:=Tryz.sizeOf148
 v27:=Tryz.zeroValue148
 t29:=underlying9
 a29:=Tryz.isAgg9
 z29:=Tryz.sizeOf9
 v29:=Tryz.zeroValue9
 t32:=underlying224
 a32:=Tryz.isAgg224
 z32:=Tryz.sizeOf224
 v32:=Tryz.zeroValue224
 t35:=underlying305
 a35:=Tryz.isAgg305
 z35:=Tryz.sizeOf305
 v35:=Tryz.zeroValue305
 t36:=underlying306
 a36:=Tryz.isAgg306
 z36:=Tryz.sizeOf306
 v36:=Tryz.zeroValue306
 t41:=underlying311
 a41:=Tryz.isAgg311
 z41:=Tryz.sizeOf311
 v41:=Tryz.zeroValue311
 t44:=underlying275
 a44:=Tryz.isAgg275
 z44:=Tryz.sizeOf275
 v44:=Tryz.zeroValue275
 t46:=underlying58
 a46:=Tryz.isAgg58
 z46:=Tryz.sizeOf58
 v46:=Tryz.zeroValue58
 t53:=underlying345
 a53:=Tryz.isAgg345
 z53:=Tryz.sizeOf345
 v53:=Tryz.zeroValue345
 t57:=underlying196
 a57:=Tryz.isAgg196
 z57:=Tryz.sizeOf196
 v57:=Tryz.zeroValue196
 t63:=underlying371
 a63:=Tryz.isAgg371
 z63:=Tryz.sizeOf371
 v63:=Tryz.zeroValue371
 t64:=underlying181
 a64:=Tryz.isAgg181
 z64:=Tryz.sizeOf181
 v64:=Tryz.zeroValue181
def CU:Go.Shelf.Ren:=⟨fun|5=>69|8=>125|7=>124|19=>212|20=>213|10=>203|11=>204|12=>205|13=>206|14=>207|15=>208|16=>209|17=>210|18=>211|30=>254|31=>255|32=>256|33=>257|34=>258|35=>259|40=>286|n=>n,fun|23=>145|25=>3|3=>3|32=>224|22=>145|0=>0|44=>275|46=>58|4=>4|36=>306|35=>305|41=>311|5=>5|9=>9|53=>345|57=>196|63=>371|64=>181|n=>n,fun|n=>n⟩
theorem AZ:Go.Proofs.SlLaysM.n5 prog CU where
 mixed:=kr
 f5:=⟨Tryz.f69.name,dc,Tryz.func69.trans (congrArg some kr)⟩
 f7:=⟨Tryz.f124.name,dc,Tryz.func124.trans (congrArg some kr)⟩
 f8:=Tryz.func125.trans (congrArg some kr)
 f10:=⟨Tryz.f203.name,dc,Tryz.func203.trans (congrArg some kr)⟩
 f11:=⟨Tryz.f204.name,dc,Tryz.func204.trans (congrArg some kr)⟩
 f12:=⟨Tryz.f205.name,dc,Tryz.func205.trans (congrArg some kr)⟩
 f13:=⟨Tryz.f206.name,dc,Tryz.func206.trans (congrArg some kr)⟩
 f14:=⟨Tryz.f207.name,dc,Tryz.func207.trans (congrArg some kr)⟩
 f15:=⟨Tryz.f208.name,dc,Tryz.func208.trans (congrArg some kr)⟩
 f16:=⟨Tryz.f209.name,dc,Tryz.func209.trans (congrArg some kr)⟩
 f17:=⟨Tryz.f210.name,dc,Tryz.func210.trans (congrArg some kr)⟩
 f18:=⟨Tryz.f211.name,dc,Tryz.func211.trans (congrArg some kr)⟩
 f19:=Tryz.func212.trans (congrArg some kr)
 f20:=Tryz.func213.trans (congrArg some kr)
 f30:=⟨Tryz.f254.name,dc,Tryz.func254.trans (congrArg some kr)⟩
 f31:=Tryz.func255.trans (congrArg some kr)
 f32:=Tryz.func256.trans (congrArg some kr)
 f33:=⟨Tryz.f257.name,dc,Tryz.func257.trans (congrArg some kr)⟩
 f34:=⟨Tryz.f258.name,dc,Tryz.func258.trans (congrArg some kr)⟩
 f35:=⟨Tryz.f259.name,dc,Tryz.func259.trans (congrArg some kr)⟩
 f40:=⟨Tryz.f286.name,dc,Tryz.func286.trans (congrArg some kr)⟩
 t0:=underlying0
 a0:=Tryz.isAgg0
 z0:=Tryz.sizeOf0
 v0:=Tryz.zeroValue0
 t3:=underlying3
 a3:=Tryz.isAgg3
 z3:=Tryz.sizeOf3
 v3:=Tryz.zeroValue3
 t4:=underlying4
 a4:=Tryz.isAgg4
 z4:=Tryz.sizeOf4
 v4:=Tryz.zeroValue4
 t5:=underlying5
 a5:=Tryz.isAgg5
 z5:=Tryz.sizeOf5
 v5:=Tryz.zeroValue5
 t9:=underlying9
 a9:=Tryz.isAgg9
 z9:=Tryz.sizeOf9
 v9:=Tryz.zeroValue9
 t22:=underlying145
 a22:=Tryz.isAgg145
 z22:=Tryz.sizeOf145
 v22:=Tryz.zeroValue145
 t23:=underlying145
 a23:=Tryz.isAgg145
 z23:=Tryz.sizeOf145
 v23:=Tryz.zeroValue145
 t25:=underlying3
 a25:=Tryz.isAgg3
 z25:=Tryz.sizeOf3
 v25:=Tryz.zeroValue3
 t32:=underlying224
 a32:=Tryz.isAgg224
 z32:=Tryz.sizeOf224
 v32:=Tryz.zeroValue224
 t35:=underlying305
 a35:=Tryz.isAgg305
 z35:=Tryz.sizeOf305
 v35:=Tryz.zeroValue305
 t36:=underlying306
 a36:=Tryz.isAgg306
 z36:=Tryz.sizeOf306
 v36:=Tryz.zeroValue306
 t41:=underlying311
 a41:=Tryz.isAgg311
 z41:=Tryz.sizeOf311
 v41:=Tryz.zeroValue311
 t44:=underlying275
 a44:=Tryz.isAgg275
 z44:=Tryz.sizeOf275
 v44:=Tryz.zeroValue275
 t46:=underlying58
 a46:=Tryz.isAgg58
 z46:=Tryz.sizeOf58
 v46:=Tryz.zeroValue58
 t53:=underlying345
 a53:=Tryz.isAgg345
 z53:=Tryz.sizeOf345
 v53:=Tryz.zeroValue345
 t57:=underlying196
 a57:=Tryz.isAgg196
 z57:=Tryz.sizeOf196
 v57:=Tryz.zeroValue196
 t63:=underlying371
 a63:=Tryz.isAgg371
 z63:=Tryz.sizeOf371
 v63:=Tryz.zeroValue371
 t64:=underlying181
 a64:=Tryz.isAgg181
 z64:=Tryz.sizeOf181
 v64:=Tryz.zeroValue181
def Ey:Go.Shelf.Ren:=⟨fun|171=>123|243=>202|246=>253|283=>282|284=>283|285=>284|286=>285|129=>213|317=>301|318=>302|319=>303|320=>304|337=>309|338=>310|n=>n,fun|3=>3|9=>9|2=>2|4=>4|171=>367|0=>0|53=>58|37=>47|5=>5|173=>369|212=>389|51=>275|20=>20|213=>390|46=>224|232=>45|233=>395|n=>n,fun|17=>2|18=>3|19=>4|n=>n⟩
theorem Nu:Go.Proofs.Lays.n171 prog Ey where
 mixed:=kr
 f129:=Tryz.func213.trans (congrArg some kr)
 f171:=Tryz.func123.trans (congrArg some kr)
 f243:=Tryz.func202.trans (congrArg some kr)
 f246:=Tryz.func253.trans (congrArg some kr)
 f283:=Tryz.func282.trans (congrArg some kr)
 f284:=Tryz.func283.trans (congrArg some kr)
 f285:=Tryz.func284.trans (congrArg some kr)
 f286:=Tryz.func285.trans (congrArg some kr)
 f317:=Tryz.func301.trans (congrArg some kr)
 f318:=Tryz.func302.trans (congrArg some kr)
 f319:=Tryz.func303.trans (congrArg some kr)
 f320:=Tryz.func304.trans (congrArg some kr)
 f337:=Tryz.func309.trans (congrArg some kr)
 f338:=Tryz.func310.trans (congrArg some kr)
 t0:=underlying0
 a0:=Tryz.isAgg0
 z0:=Tryz.sizeOf0
 v0:=Tryz.zeroValue0
 t2:=underlying2
 a2:=Tryz.isAgg2
 z2:=Tryz.sizeOf2
 v2:=Tryz.zeroValue2
 t3:=underlying3
 a3:=Tryz.isAgg3
 z3:=Tryz.sizeOf3
 v3:=Tryz.zeroValue3
 t4:=underlying4
 a4:=Tryz.isAgg4
 z4:=Tryz.sizeOf4
 v4:=Tryz.zeroValue4
 t5:=underlying5
 a5:=Tryz.isAgg5
 z5:=Tryz.sizeOf5
 v5:=Tryz.zeroValue5
 t9:=underlying9
 a9:=Tryz.isAgg9
 z9:=Tryz.sizeOf9
 v9:=Tryz.zeroValue9
 t20:=underlying20
 a20:=Tryz.isAgg20
 z20:=Tryz.sizeOf20
 v20:=Tryz.zeroValue20
 t37:=underlying47
 a37:=Tryz.isAgg47
 z37:=Tryz.sizeOf47
 v37:=Tryz.zeroValue47
 t46:=underlying224
 a46:=Tryz.isAgg224
 z46:=Tryz.sizeOf224
 v46:=Tryz.zeroValue224
 t51:=underlying275
 a51:=Tryz.isAgg275
 z51:=Tryz.sizeOf275
 v51:=Tryz.zeroValue275
 t53:=underlying58
 a53:=Tryz.isAgg58
 z53:=Tryz.sizeOf58
 v53:=Tryz.zeroValue58
 t171:=underlying367
 a171:=Tryz.isAgg367
 z171:=Tryz.sizeOf367
 v171:=Tryz.zeroValue367
 t173:=underlying369
 a173:=Tryz.isAgg369
 z173:=Tryz.sizeOf369
 v173:=Tryz.zeroValue369
 t212:=underlying389
 a212:=Tryz.isAgg389
 z212:=Tryz.sizeOf389
 v212:=Tryz.zeroValue389
 t213:=underlying390
 a213:=Tryz.isAgg390
 z213:=Tryz.sizeOf390
 t232:=underlying45
 a232:=Tryz.isAgg45
 z232:=Tryz.sizeOf45
 v232:=Tryz.zeroValue45
 t233:=underlying395
 a233:=Tryz.isAgg395
 z233:=Tryz.sizeOf395
 v233:=Tryz.zeroValue395
 g17:=kr
 g18:=kr
 g19:=kr
def nY:Go.Shelf.Ren:=⟨fun|172=>122|244=>200|245=>201|247=>248|279=>249|280=>250|281=>251|282=>252|287=>279|316=>280|171=>123|205=>281|321=>299|322=>300|243=>202|246=>253|283=>282|284=>283|285=>284|286=>285|129=>213|317=>301|318=>302|319=>303|320=>304|337=>309|338=>310|n=>n,fun|9=>9|3=>3|75=>219|76=>220|4=>4|5=>5|167=>338|37=>47|0=>0|85=>339|2=>2|168=>341|53=>58|175=>361|46=>224|210=>365|127=>383|145=>386|143=>384|21=>21|171=>367|173=>369|212=>389|51=>275|20=>20|213=>390|232=>45|233=>395|80=>396|n=>n,fun|15=>0|16=>1|17=>2|18=>3|19=>4|n=>n⟩
theorem Kl:Go.Proofs.LaysC.n172 prog nY where
 mixed:=kr
 f129:=Tryz.func213.trans (congrArg some kr)
 f171:=Tryz.func123.trans (congrArg some kr)
 f172:=Tryz.func122.trans (congrArg some kr)
 f205:=Tryz.func281.trans (congrArg some kr)
 f243:=Tryz.func202.trans (congrArg some kr)
 f244:=Tryz.func200.trans (congrArg some kr)
 f245:=Tryz.func201.trans (congrArg some kr)
 f246:=Tryz.func253.trans (congrArg some kr)
 f247:=Tryz.func248.trans (congrArg some kr)
 f279:=Tryz.func249.trans (congrArg some kr)
 f280:=Tryz.func250.trans (congrArg some kr)
 f281:=Tryz.func251.trans (congrArg some kr)
 f282:=Tryz.func252.trans (congrArg some kr)
 f283:=Tryz.func282.trans (congrArg some kr)
 f284:=Tryz.func283.trans (congrArg some kr)
 f285:=Tryz.func284.trans (congrArg some kr)
 f286:=Tryz.func285.trans (congrArg some kr)
 f287:=Tryz.func279.trans (congrArg some kr)
 f316:=Tryz.func280.trans (congrArg some kr)
 f317:=Tryz.func301.trans (congrArg some kr)
 f318:=Tryz.func302.trans (congrArg some kr)
 f319:=Tryz.func303.trans (congrArg some kr)
 f320:=Tryz.func304.trans (congrArg some kr)
 f321:=Tryz.func299.trans (congrArg some kr)
 f322:=Tryz.func300.trans (congrArg some kr)
 f337:=Tryz.func309.trans (congrArg some kr)
 f338:=Tryz.func310.trans (congrArg some kr)
 t0:=underlying0
 a0:=Tryz.isAgg0
 z0:=Tryz.sizeOf0
 v0:=Tryz.zeroValue0
 t2:=underlying2
 a2:=Tryz.isAgg2
 z2:=Tryz.sizeOf2
 v2:=Tryz.zeroValue2
 t3:=underlying3
 a3:=Tryz.isAgg3
 z3:=Tryz.sizeOf3
 v3:=Tryz.zeroValue3
 t4:=underlying4
 a4:=Tryz.isAgg4
 z4:=Tryz.sizeOf4
 v4:=Tryz.zeroValue4
 t5:=underlying5
 a5:=Tryz.isAgg5
 z5:=Tryz.sizeOf5
 v5:=Tryz.zeroValue5
 t9:=underlying9
 a9:=Tryz.isAgg9
 z9:=Tryz.sizeOf9
 v9:=Tryz.zeroValue9
 t20:=underlying20
 a20:=Tryz.isAgg20
 z20:=Tryz.sizeOf20
 v20:=Tryz.zeroValue20
 t21:=underlying21
 a21:=Tryz.isAgg21
 z21:=Tryz.sizeOf21
 v21:=Tryz.zeroValue21
 t37:=underlying47
 a37:=Tryz.isAgg47
 z37:=Tryz.sizeOf47
 v37:=Tryz.zeroValue47
 t46:=underlying224
 a46:=Tryz.isAgg224
 z46:=Tryz.sizeOf224
 v46:=Tryz.zeroValue224
 t51:=underlying275
 a51:=Tryz.isAgg275
 z51:=Tryz.sizeOf275
 v51:=Tryz.zeroValue275
 t53:=underlying58
 a53:=Tryz.isAgg58
 z53:=Tryz.sizeOf58
 v53:=Tryz.zeroValue58
 t75:=underlying219
 a75:=Tryz.isAgg219
 z75:=Tryz.sizeOf219
 v75:=Tryz.zeroValue219
 t76:=underlying220
 a76:=Tryz.isAgg220
 z76:=Tryz.sizeOf220
 v76:=Tryz.zeroValue220
 t85:=underlying339
 a85:=Tryz.isAgg339
 z85:=Tryz.sizeOf339
 v85:=Tryz.zeroValue339
 t127:=underlying383
 a127:=Tryz.isAgg383
 z127:=Tryz.sizeOf383
 v127:=Tryz.zeroValue383
 t143:=underlying384
 a143:=Tryz.isAgg384
 z143:=Tryz.sizeOf384
 v143:=Tryz.zeroValue384
 t145:=underlying386
 a145:=Tryz.isAgg386
 z145:=Tryz.sizeOf386
 v145:=Tryz.zeroValue386
 t167:=underlying338
 a167:=Tryz.isAgg338
 z167:=Tryz.sizeOf338
 v167:=Tryz.zeroValue338
 t168:=underlying341
 a168:=Tryz.isAgg341
 z168:=Tryz.sizeOf341
 v168:=Tryz.zeroValue341
 t171:=underlying367
 a171:=Tryz.isAgg367
 z171:=Tryz.sizeOf367
 v171:=Tryz.zeroValue367
 t173:=underlying369
 a173:=Tryz.isAgg369
 z173:=Tryz.sizeOf369
 v173:=Tryz.zeroValue369
 t175:=underlying361
 a175:=Tryz.isAgg361
 z175:=Tryz.sizeOf361
 v175:=Tryz.zeroValue361
 t210:=underlying365
 a210:=Tryz.isAgg365
 z210:=Tryz.sizeOf365
 v210:=Tryz.zeroValue365
 t212:=underlying389
 a212:=Tryz.isAgg389
 z212:=Tryz.sizeOf389
 v212:=Tryz.zeroValue389
 t213:=underlying390
 a213:=Tryz.isAgg390
 z213:=Tryz.sizeOf390
 t232:=underlying45
 a232:=Tryz.isAgg45
 z232:=Tryz.sizeOf45
 v232:=Tryz.zeroValue45
 t233:=underlying395
 a233:=Tryz.isAgg395
 z233:=Tryz.sizeOf395
 v233:=Tryz.zeroValue395
 g15:=kr
 g16:=kr
 g17:=kr
 g18:=kr
 g19:=kr
 t80:=underlying396
 a80:=Tryz.isAgg396
 z80:=Tryz.sizeOf396
 v80:=Tryz.zeroValue396
 i0:=kr
 i2:=kr
 i3:=kr
 i4:=kr
 i5:=kr
 i9:=kr
 i20:=kr
 i21:=kr
 i37:=kr
 i46:=kr
 i51:=kr
 i53:=kr
 i75:=kr
 i76:=kr
 i80:=kr
 i85:=kr
 i127:=kr
 i143:=kr
 i145:=kr
 i167:=kr
 i168:=kr
 i171:=kr
 i173:=kr
 i175:=kr
 i210:=kr
 i212:=kr
 i232:=kr
 i233:=kr
 m15:=kr
 m16:=kr
 m17:=kr
 m18:=kr
 m19:=kr
 c0:=kr
 c2:=kr
 c3:=kr
 c4:=kr
 c5:=kr
 c9:=kr
 c20:=kr
 c21:=kr
 c37:=kr
 c46:=kr
 c51:=kr
 c53:=kr
 c75:=kr
 c76:=kr
 c80:=kr
 c85:=kr
 c127:=kr
 c143:=kr
 c145:=kr
 c167:=kr
 c168:=kr
 c171:=kr
 c173:=kr
 c175:=kr
 c210:=kr
 c212:=kr
 c213:=kr
 c232:=kr
 c233:=kr
def Gy:Go.Shelf.Ren:=⟨fun|103=>121|210=>199|206=>247|n=>n,fun|9=>9|4=>4|24=>216|3=>3|n=>n,fun|n=>n⟩
theorem ON:Go.Proofs.Lays.n103 prog Gy where
 mixed:=kr
 f103:=Tryz.func121.trans (congrArg some kr)
 f206:=Tryz.func247.trans (congrArg some kr)
 f210:=Tryz.func199.trans (congrArg some kr)
 t3:=underlying3
 a3:=Tryz.isAgg3
 z3:=Tryz.sizeOf3
 v3:=Tryz.zeroValue3
 t4:=underlying4
 a4:=Tryz.isAgg4
 z4:=Tryz.sizeOf4
 v4:=Tryz.zeroValue4
 t9:=underlying9
 a9:=Tryz.isAgg9
 z9:=Tryz.sizeOf9
 v9:=Tryz.zeroValue9
 t24:=underlying216
 a24:=Tryz.isAgg216
 z24:=Tryz.sizeOf216
 v24:=Tryz.zeroValue216
def FU:Go.Shelf.Ren:=⟨fun|15=>117|20=>195|n=>n,fun|9=>9|23=>211|3=>3|4=>4|0=>0|21=>21|n=>n,fun|n=>n⟩
theorem M3:Go.Proofs.LaysGw.n15 prog FU where
 mixed:=kr
 f15:=Tryz.func117.trans (congrArg some kr)
 f20:=Tryz.func195.trans (congrArg some kr)
 t0:=underlying0
 a0:=Tryz.isAgg0
 z0:=Tryz.sizeOf0
 v0:=Tryz.zeroValue0
 i0:=kr
 t3:=underlying3
 a3:=Tryz.isAgg3
 z3:=Tryz.sizeOf3
 v3:=Tryz.zeroValue3
 i3:=kr
 t4:=underlying4
 a4:=Tryz.isAgg4
 z4:=Tryz.sizeOf4
 v4:=Tryz.zeroValue4
 i4:=kr
 t9:=underlying9
 a9:=Tryz.isAgg9
 z9:=Tryz.sizeOf9
 v9:=Tryz.zeroValue9
 i9:=kr
 t21:=underlying21
 a21:=Tryz.isAgg21
 z21:=Tryz.sizeOf21
 v21:=Tryz.zeroValue21
 i21:=kr
 t23:=underlying211
 a23:=Tryz.isAgg211
 z23:=Tryz.sizeOf211
 v23:=Tryz.zeroValue211
 i23:=kr
variable {w0:World} {H:List SA} {r c:Nat} {s:ByteArray}
theorem L4(m:Nat):AnyZ.SortsIn prog se Fence.wide m:=
 ⟨fun aF off cap ss W hH hblk hsz=>callsIn_wide.2 (AnyM.slices_Sort_string FR aF off cap ss W hH hblk hsz),
  fun p cap W=>callsIn_wide.2 (AnyM.slices_Sort_string_none FR p cap W)⟩
def y7(es:FM):List (List UInt8):=es.map fun e=>e.k.data.toList
def bS(es:FM):List ByteArray:=((y7 es).mergeSort leB).map fun x=>⟨x.toArray⟩
theorem ka(es:FM):(bS es).Perm (es.map (·.k)):=by
 unfold bS;have h:=(List.mergeSort_perm (y7 es) leB).map (fun x:List UInt8=>(⟨x.toArray⟩:ByteArray));refine h.trans ?_;unfold y7;rw[Yo];exact List.Perm.of_eq (YD fun e _=>by cases e with|mk k v b=>cases k;simp)
theorem w5(es:FM):(bS es).length=es.length:=by rw[(ka es).length_eq,WZ]
def Iz:Value->Option (DataW Unit×List MemPlace):=fun _=>some (.nil,[])
theorem K1{w:World}{es:FM}(h:w.heap[r]? =some (cF encS BS.val es c))(hg:eQ es c)(hk:∀e∈es,e.k.size<=maxLen)(hn:es.length<=1000000):∃D0:DataW Unit,w.ownsMap prog 9 Iz r es.length D0/\(strKeys D0).Perm (y7 es)/\Maps.size D0=es.length:=by
 have hkey:∀e∈es,keyOf prog 9 (encS e.k)=some (.string e.k.data.toList):=fun e he=>by
   simp only[keyOf,underlying9,mapKey,encS];rw[if_pos (hk e he)]
 have hrd:∀e∈es,Go.WideElems.rd prog 9 Iz (fe encS BS.val e)=some (.string e.k.data.toList,.nil):=fun e he=>by
   simp only[Go.WideElems.rd,fe,hkey e he,Iz,Option.bind_some,XK]
 have hl:(es.map (fe encS BS.val)).map (Go.WideElems.rg prog 9 Iz)=es.map fun e=>((.string e.k.data.toList,.nil):Lit×DataW Unit):=by
   rw[Yo];exact YD fun e he=>by simp only[Function.comp,Go.WideElems.rg,hrd e he,Option.getD_some]
 refine⟨_,⟨_,c,h,⟨by simp only[X5,WZ];unfold maxLen;omega,⟨fun x hx=>?_,?_,?_⟩,fun x hx=>?_⟩,sm,rfl⟩,?_,?_⟩
 · obtain⟨e,he,rfl⟩:=Xd.1 aev
   exact hg.lt e he
 · have hb2:=hg.born
   simp only[Yo];have:(es.map ((fun x:MapEntry=>x.born)∘fe encS BS.val))=es.map (·.b):=rfl;rw[this];exact hb2
 · have hk2:=hg.keys
   simp only[Yo];have:(es.map ((fun x:MapEntry=>x.key)∘fe encS BS.val))=(es.map (·.k)).map encS:=by rw[Yo];rfl
   rw[this];exact List.Pairwise.map _ (fun a b hab h=>hab (by simpa[encS]using h)) hk2
 · obtain⟨e,he,rfl⟩:=Xd.1 aev
   exact⟨_,hrd e he⟩
 · have hp:=Go.WideShapes.sorted_perm ((es.map (fe encS BS.val)).map (Go.WideElems.rg prog 9 Iz))
   have h2:=hp.map (fun p:Lit×DataW Unit=>strOf p.1);rw[hl,Yo]at h2;simp only[strKeys];rw[hl];exact h2
 · simp only[Maps.size]
   rw[(Go.WideShapes.sorted_perm _).length_eq];simp
theorem NN:CT prog w0 H 120 [.map (some r)] (α:=Nat) (fun b=> .func (.func 198) #[] #[.pointer (some ⟨b,0,none⟩)]) (fun b=>aF b (.cells #[.map (some r)] 74 (0,0))::H):=fun w hw=>by
 refine(callsIn_wide.1 (AnyZ.keys_in JN Fence.wide 5 trivial rfl (some r) w)).mono ?_;rintro e w' ⟨rfl,rfl⟩;exact⟨w.heap.size,rfl,hw.alloc _⟩
theorem HD{b:Nat}{es:FM}[hm:Mem w0 H r (cF encS BS.val es c)][hb:Mem w0 H b (.cells #[.map (some r)] 74 (0,0))](hg:eQ es c)(hk:∀e∈es,e.k.size<=maxLen)(hn:es.length<=1000000):CT prog w0 H 119 [.func (.func 198) #[] #[.pointer (some ⟨b,0,none⟩)]] (α:=AC) (fun y=> .slice y.a (bS es).length y.c) (fun y=>row (.slice y.a (bS es).length y.c) 9 1 ((bS es).map encS)::H):=fun w hw=>by
 obtain⟨D0,hown,hperm,hsz⟩:=K1 (hm.get w hw) hg hk hn;have hbw:=hb.get w hw;have hbl:b<w.heap.size:=(Xk.1 hbw).1;have hcell:w.cell? ⟨b,0,none⟩=some (.map (some r)):=by simp[World.cell?,hbw]
 have hseq:SeqGives Fence.wide 2 prog 198 #[.pointer (some ⟨b,0,none⟩)] encStr (fun ss=>ss.Perm (strKeys D0)) (Maps.size D0) w:=
   AnyZ.keys_gives (ρ:=vx) {JN with} Fence.wide _ trivial rfl om b r es.length D0 w hbl hcell hown
 refine(callsIn_wide.1 (AnyZ.sorted_in Jz Fence.wide 5 trivial trivial trivial trivial rfl om (L4 _) (enters_of func197 kr rfl) 198 #[.pointer (some ⟨b,0,none⟩)] trivial (enters_of func198 kr rfl) _ _ (by rw[hsz];unfold maxLen;omega) (by rw[hsz];omega) w hseq)).mono ?_;rintro e w' ⟨v,ss,rfl,hS,hrow,hnil,hbe⟩;have hss:ss.mergeSort leB=(y7 es).mergeSort leB:=mergeSort_of_perm (hS.trans hperm);have hnl:ss.length=(bS es).length:=by rw[(hS.trans hperm).length_eq,w5];simp[y7]
 have hxs:(ss.mergeSort leB).map encStr=(bS es).map encS:=by
   rw[hss,bS,Yo];rfl
 obtain⟨h1,h2⟩:=hrow
 replace h2:(v= .slice none 0 0/\ss.length=0)∨∃g cap cur,v= .slice (some ⟨g,0,none⟩) ss.length cap/\w.heap.size<=g/\w'.heap[g]? =some (.cells cur 9 (0,0))/\ss.length<=cap/\cap<=maxLen/\cur.size=cap*1/\cur.toList.take (ss.length*1)=(ss.mergeSort leB).map encStr:=h2
 rw[hxs]at h2;rcases h2 with⟨rfl,h0⟩|⟨g,cap,cur,rfl,hge,hgc,q1,q2,q3,q4⟩
 · refine⟨⟨none,0⟩,by rw[←hnl,h0],hw.fresh hbe.os hbe.tape hbe.output hbe.size hbe.block ?_ aee aee⟩
   exact⟨none,0,0,by rw[←hnl,h0],by rw[WZ,←hnl,h0],W8 _,by unfold maxLen;omega,fun _=>rfl,fun h=>absurd rfl h⟩
 · have hgl:g<w'.heap.size:=(Xk.1 hgc).1
   refine⟨⟨some ⟨g,0,none⟩,cap⟩,by rw[hnl],hw.fresh hbe.os hbe.tape hbe.output hbe.size hbe.block ?_ ?_ ?_⟩
   · exact⟨some ⟨g,0,none⟩,(bS es).length,cap,rfl,sm,om,q2,(fun h=>by cases h),fun _=>⟨g,cur,rfl,hgc,q3,by rw[←hnl];exact q4⟩⟩
   · by_cases h0:cap=0<;>simp[row,bQ,h0]
   · intro b' hb'
     by_cases h0:cap=0
     · simp[row,bQ,h0]at hb'
     · obtain rfl:b'=g:=by simpa[row,bQ,h0]using hb'
       exact⟨hge,hgl⟩
def pw(r:Nat):Bool:=decide (r<97)||decide (122<r)
def tU(s:ByteArray):Bool:=decide (1<=s.size)&&(decide (s.size<=8)&&decide (Lib.idxFunc pw true s<0))
theorem O2(w:World):PredAt prog 118 #[] Go.Proofs.encR pw w:=fun W r _=>by
 unfold FnGives pw;by_cases h1:r<97<;>by_cases h2:122<r
 all_goals
   have z1:(r:Int)<97↔r<97:=om;have z2:(122:Int)<(r:Int)↔122<r:=om
   go_enter func118,ntmps118
   go_wp2
   all_goals first|(exfalso;omega)|(go_ret;exact⟨by simp[h1,h2],0,rfl⟩)
theorem St.later{w w':World}(hw:St w0 H w)(hb:Below w.heap.size w w'):St w0 H w':=
 (hw.fresh (x':=pu True) hb.os hb.tape hb.output hb.size hb.block trivial (by simp[pu]) (by simp[pu])).tail
theorem Of:CT prog w0 H 117 [.string s,.func (.func 118) #[] #[]] (α:=Unit) (fun _=> .int .i64 (Lib.idxFunc pw true s)) (fun _=>H):=fun w hw=>by
 refine(Any.strings_IndexFunc M3 118 #[] (enters_of func118 kr rfl) pw s w (O2 w)).mono ?_;rintro e w' ⟨rfl,hb⟩;exact⟨(),rfl,St.later hw hb⟩
theorem Km{i:Nat}(hi:i<100):CT prog w0 H 123 [.int .i64 (i:Int)] (α:=Unit) (fun _=> .string ⟨(Lib.decDigits i).toArray⟩) (fun _=>H):=fun w hw=>by
 refine(Any.strconv_Itoa_small Nu i hi w).mono ?_;rintro e w' ⟨rfl,rfl⟩;exact agp
theorem NU(hs:s.size<=1000000){v:Int}(h:Lib.atoiAll s.data.toList= .ok v):CT prog w0 H 122 [.string s] (α:=Unit) (fun _=> .tuple #[.int .i64 v,.nilIface]) (fun _=>H):=fun w hw=>by
 refine(Any.strconv_Atoi_ok Kl s om v h w).mono ?_;rintro e w' ⟨rfl,rfl|⟨t,rfl⟩⟩
 · exact⟨(),rfl,hw⟩
 · exact⟨(),rfl,St.later hw (Lib.bytesWorld_below w _ t)⟩
theorem MS{p:ByteArray}:CT prog w0 H 121 [.string s,.string p] (α:=Unit) (fun _=> .tuple #[.string ⟨(Lib.trimPrefix s.data.toList p.data.toList).toArray⟩,.bool (Lib.hasPrefix s.data.toList p.data.toList)]) (fun _=>H):=fun w hw=>by
 refine(Any.strings_CutPrefix ON s p w).mono ?_;rintro e w' ⟨rfl,rfl⟩;exact agp
theorem KG{a:Option Addr}:CT prog w0 H 69 [.slice a 0 c] (α:=Unit) (fun _=> .tuple #[]) (fun _=>H):=fun w hw=>by
 refine(AnyM.slices_Sort_int_none AZ a c w).mono ?_;rintro e w' ⟨rfl,rfl⟩;exact agp
attribute [local irreducible] bS
theorem CB{p:Nat}{s:DS}{N M:Nat}(hok:s.Ok N M)(hN:N<=1000000)(hkz:∀e∈s.e2,e.k.size<=maxLen):CT prog w0 (DS.H p s H) 67 [.pointer (some ⟨p,0,none⟩)] (α:=AC) (fun y=> .slice y.a (bS s.e2).length y.c) (fun y=>row (.slice y.a (bS s.e2).length y.c) 9 1 ((bS s.e2).map encS)::DS.H p s H):=by
 refine al func67 rfl ntmps67 rfl (gG ?_);refine Zm ?_;refine yC ?_ ?_<;>intro h4 p4
 ·
  cases h4
 refine gG ?_;refine ze rfl (zc (NN (r:=s.r2)) rfl (fun x9=>?_));refine ze rfl (zc (HD (r:=s.r2) (b:=x9) (es:=s.e2) (c:=s.c2) hok.gR hkz (by have:=hok.n2;omega)) rfl (fun x10=>gG ?_));exact zX x10 [_] results67 ⟨rfl,trivial⟩ rfl SB
end
end Go.Proofs.YtmbfimckmfnnjaaGreatDoor
