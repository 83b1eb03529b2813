/- Steps of the proof of a law. -/
import Derived.Test.YtmbfimckmfnnjaaGreatDoorQ47
set_option maxRecDepth 100000
set_option maxHeartbeats 1000000
set_option linter.unusedSimpArgs false
set_option linter.unusedVariables false
namespace Go.Proofs.YtmbfimckmfnnjaaGreatDoor
open Go.RowKit Go.Sx Go.Proofs.Tryz
def aH.lE(w:World)(v:aH):Prop:=(Lit.int .i64 v.num).wf=true/\(Lit.int .u16 v.mask).wf=true
def ax.lE(w:World)(v:ax):Prop:=True/\(Lit.int .i64 v.n).wf=true
def cI.lE(w:World)(v:cI):Prop:=True/\(Lit.int .i64 v.n).wf=true
def ar.lE(w:World)(v:ar):Prop:=(Lit.int .i64 v.aG).wf=true/\(Lit.int .i64 v.seq).wf=true/\(Lit.int .i64 v.slot).wf=true/\v.res.lE w
def aj.lE(w:World)(v:aj):Prop:=(Lit.int .i64 v.slot).wf=true/\(Lit.int .i64 v.first).wf=true/\v.view.lE w/\v.fM.lE w/\(∀y∈v.cs.toList,y.lE w)/\(∀y∈v.last.toList,y.lE w)
def ah.mw(w:World)(v:ah):Prop:=(Lit.int .i64 v.n).wf=true/\True/\(gN w v.batch.val v.batch.l/\v.batch.l.length<=reachBytes)/\(cY w (.slice v.parts.a v.parts.ls.length v.parts.c) 1 (v.parts.ls.map BS.val)/\∀y∈v.parts.ls,gN w y.val y.l/\y.l.length<=reachBytes)
def af.lE(w:World)(v:af):Prop:=(Lit.int .i64 v.kind).wf=true/\(Lit.int .i64 v.view).wf=true/\(Lit.int .i64 v.dZ).wf=true/\(Lit.int .i64 v.slot).wf=true/\True/\gN w v.batch.val v.batch.l/\cY w (.slice v.cert.a v.cert.ls.length v.cert.c) 1 (v.cert.ls.map BS.val)/\∀y∈v.cert.ls,gN w y.val y.l
def cz.lE(w:World)(v:cz):Prop:=(Lit.int .u64 v.gQ).wf=true/\(Lit.int .i64 v.dP).wf=true/\(Lit.int .i64 v.cut).wf=true
def xJ(w:World)(x:Sl):Prop:=∃ls:List ah,x.n=ls.length/\cY w (.slice x.a ls.length x.c) 35 (ls.flatMap ah.list)/\∀y∈ls,y.mw w
def cQ.mw(w:World)(v:cQ):Prop:=(Lit.int .i64 v.kind).wf=true/\xJ w v.l/\v.v.lE w/\v.w.lE w/\v.x.mw w/\(Lit.int .i64 v.n).wf=true/\v.p.lE w
theorem yw:Ca prog 33 aH aH.list aH.lE:=⟨fun en w sp fuel cs x h=>by
 obtain⟨xs,m,_,_,hl,hlen,hf⟩:=DataW.trod_struct underlying33 h;have hl:cs.length=_:=hl;have hlen:xs.length=2:=hlen;have h0:=hf 0 _ rfl;rw[WW om]at h0;obtain⟨y0,e0,r0⟩:=(gp underlying3).ok en w sp m _ _ h0;have h1:=hf 1 _ rfl;rw[WW om]at h1;obtain⟨y1,e1,r1⟩:=(gp underlying31).ok en w sp m _ _ h1;exact⟨⟨y0,y1⟩,(cZ e0 (jz e1 (by exact hl))),⟨r0,r1⟩⟩⟩
theorem Gl:Ca prog 36 ax ax.list ax.lE:=⟨fun en w sp fuel cs x h=>by
 obtain⟨xs,m,_,_,hl,hlen,hf⟩:=DataW.trod_struct underlying36 h;have hl:cs.length=_:=hl;have hlen:xs.length=2:=hlen;have h0:=hf 0 _ rfl;rw[WW om]at h0;obtain⟨y0,e0,r0⟩:=(Dm underlying4).ok en w sp m _ _ h0;have h1:=hf 1 _ rfl;rw[WW om]at h1;obtain⟨y1,e1,r1⟩:=(gp underlying2).ok en w sp m _ _ h1;exact⟨⟨y0,y1⟩,(cZ e0 (jz e1 (by exact hl))),⟨r0,r1⟩⟩⟩
theorem H6:Ca prog 39 cI cI.list cI.lE:=⟨fun en w sp fuel cs x h=>by
 obtain⟨xs,m,_,_,hl,hlen,hf⟩:=DataW.trod_struct underlying39 h;have hl:cs.length=_:=hl;have hlen:xs.length=2:=hlen;have h0:=hf 0 _ rfl;rw[WW om]at h0;obtain⟨y0,e0,r0⟩:=(Dm underlying4).ok en w sp m _ _ h0;have h1:=hf 1 _ rfl;rw[WW om]at h1;obtain⟨y1,e1,r1⟩:=(gp underlying2).ok en w sp m _ _ h1;exact⟨⟨y0,y1⟩,(cZ e0 (jz e1 (by exact hl))),⟨r0,r1⟩⟩⟩
theorem DH:Ca prog 41 ar ar.list ar.lE:=⟨fun en w sp fuel cs x h=>by
 obtain⟨xs,m,_,_,hl,hlen,hf⟩:=DataW.trod_struct underlying41 h;have hl:cs.length=_:=hl;have hlen:xs.length=4:=hlen;have h0:=hf 0 _ rfl;rw[WW om]at h0;obtain⟨y0,e0,r0⟩:=(gp underlying3).ok en w sp m _ _ h0;have h1:=hf 1 _ rfl;rw[WW om]at h1;obtain⟨y1,e1,r1⟩:=(gp underlying3).ok en w sp m _ _ h1;have h2:=hf 2 _ rfl;rw[WW om]at h2;obtain⟨y2,e2,r2⟩:=(gp underlying3).ok en w sp m _ _ h2;have h3:=hf 3 _ rfl;rw[WW om]at h3;obtain⟨y3,e3,r3⟩:=(H6).ok en w sp m _ _ h3;exact⟨⟨y0,y1,y2,y3⟩,(cZ e0 (cZ e1 (cZ e2 (jz e3 (by exact hl))))),⟨r0,r1,r2,r3⟩⟩⟩
theorem DA:Ca prog 44 aj aj.list aj.lE:=⟨fun en w sp fuel cs x h=>by
 obtain⟨xs,m,_,_,hl,hlen,hf⟩:=DataW.trod_struct underlying44 h;have hl:cs.length=_:=hl;have hlen:xs.length=6:=hlen;have h0:=hf 0 _ rfl;rw[WW om]at h0;obtain⟨y0,e0,r0⟩:=(gp underlying3).ok en w sp m _ _ h0;have h1:=hf 1 _ rfl;rw[WW om]at h1;obtain⟨y1,e1,r1⟩:=(gp underlying3).ok en w sp m _ _ h1;have h2:=hf 2 _ rfl;rw[WW om]at h2;obtain⟨y2,e2,r2⟩:=(yw).ok en w sp m _ _ h2;have h3:=hf 3 _ rfl;rw[WW om]at h3;obtain⟨y3,e3,r3⟩:=(yw).ok en w sp m _ _ h3;have h4:=hf 4 _ rfl;rw[WW om]at h4;obtain⟨y4,e4,r4⟩:=(yB Gl underlying37 rfl rfl).ok en w sp m _ _ h4;have h5:=hf 5 _ rfl;rw[WW om]at h5;obtain⟨y5,e5,r5⟩:=(yB DH underlying42 rfl rfl).ok en w sp m _ _ h5;exact⟨⟨y0,y1,y2,y3,y4,y5⟩,(cZ e0 (cZ e1 (cZ e2 (cZ e3 (cZ e4 (jz e5 (by exact hl))))))),⟨r0,r1,r2,r3,r4,r5⟩⟩⟩
theorem yl:qh prog 50 ah ah.list ah.mw:=⟨fun en w sp fuel cs x h hz=>by
 obtain⟨xs,m,_,hx,hl,hlen,hf⟩:=DataW.trod_struct underlying50 h;have hl:cs.length=_:=hl;have hlen:xs.length=4:=hlen;have h0:=hf 0 _ rfl;rw[WW om]at h0;obtain⟨y0,e0,r0⟩:=(qh.of (gp underlying3)).ok en w sp m _ _ h0 (fun n hn=>hz n (fT hx underlying50 0 rfl (WW om) n hn));have h1:=hf 1 _ rfl;rw[WW om]at h1;obtain⟨y1,e1,r1⟩:=(qh.of (Bl underlying46 underlying5 rfl rfl)).ok en w sp m _ _ h1 (fun n hn=>hz n (fT hx underlying50 1 rfl (WW om) n hn));have h2:=hf 2 _ rfl;rw[WW om]at h2;obtain⟨y2,e2,r2⟩:=(yK underlying47 underlying5 rfl rfl).ok en w sp m _ _ h2 (fun n hn=>hz n (fT hx underlying50 2 rfl (WW om) n hn));have h3:=hf 3 _ rfl;rw[WW om]at h3;obtain⟨y3,e3,r3⟩:=(Gm underlying48 underlying47 underlying5 rfl rfl rfl).ok en w sp m _ _ h3 (fun n hn=>hz n (fT hx underlying50 3 rfl (WW om) n hn));exact⟨⟨y0,y1,y2,y3⟩,(cZ e0 (cZ e1 (cZ e2 (jz e3 (by exact hl))))),⟨r0,r1,r2,r3⟩⟩⟩
theorem Gt:Ca prog 57 af af.list af.lE:=⟨fun en w sp fuel cs x h=>by
 obtain⟨xs,m,_,_,hl,hlen,hf⟩:=DataW.trod_struct underlying57 h;have hl:cs.length=_:=hl;have hlen:xs.length=7:=hlen;have h0:=hf 0 _ rfl;rw[WW om]at h0;obtain⟨y0,e0,r0⟩:=(gp underlying3).ok en w sp m _ _ h0;have h1:=hf 1 _ rfl;rw[WW om]at h1;obtain⟨y1,e1,r1⟩:=(gp underlying3).ok en w sp m _ _ h1;have h2:=hf 2 _ rfl;rw[WW om]at h2;obtain⟨y2,e2,r2⟩:=(gp underlying3).ok en w sp m _ _ h2;have h3:=hf 3 _ rfl;rw[WW om]at h3;obtain⟨y3,e3,r3⟩:=(gp underlying3).ok en w sp m _ _ h3;have h4:=hf 4 _ rfl;rw[WW om]at h4;obtain⟨y4,e4,r4⟩:=(Bl underlying46 underlying5 rfl rfl).ok en w sp m _ _ h4;have h5:=hf 5 _ rfl;rw[WW om]at h5;obtain⟨y5,e5,r5⟩:=(tc underlying47 underlying5 rfl).ok en w sp m _ _ h5;have h6:=hf 6 _ rfl;rw[WW om]at h6;obtain⟨y6,e6,r6⟩:=(G8 underlying48 underlying47 underlying5 rfl rfl).ok en w sp m _ _ h6;exact⟨⟨y0,y1,y2,y3,y4,y5,y6⟩,(cZ e0 (cZ e1 (cZ e2 (cZ e3 (cZ e4 (cZ e5 (jz e6 (by exact hl)))))))),⟨r0,r1,r2,r3,r4,r5,r6⟩⟩⟩
theorem Gb:Ca prog 60 cz cz.list cz.lE:=⟨fun en w sp fuel cs x h=>by
 obtain⟨xs,m,_,_,hl,hlen,hf⟩:=DataW.trod_struct underlying60 h;have hl:cs.length=_:=hl;have hlen:xs.length=3:=hlen;have h0:=hf 0 _ rfl;rw[WW om]at h0;obtain⟨y0,e0,r0⟩:=(gp underlying58).ok en w sp m _ _ h0;have h1:=hf 1 _ rfl;rw[WW om]at h1;obtain⟨y1,e1,r1⟩:=(gp underlying3).ok en w sp m _ _ h1;have h2:=hf 2 _ rfl;rw[WW om]at h2;obtain⟨y2,e2,r2⟩:=(gp underlying3).ok en w sp m _ _ h2;exact⟨⟨y0,y1,y2⟩,(cZ e0 (cZ e1 (jz e2 (by exact hl)))),⟨r0,r1,r2⟩⟩⟩
theorem Hh:qh prog 51 Sl (fun x=>[.slice x.a x.n x.c]) xJ:=
 ⟨fun en w sp fuel cs x h hz=>by
   obtain⟨a,c,ls,h1,h2,h3⟩:=pb (n:=35) yl underlying51 rfl om ah.ae h hz;exact⟨⟨a,ls.length,c⟩,h1,ls,rfl,h2,h3⟩⟩
theorem Ha:qh prog 62 cQ cQ.list cQ.mw:=⟨fun en w sp fuel cs x h hz=>by
 obtain⟨xs,m,_,hx,hl,hlen,hf⟩:=DataW.trod_struct underlying62 h;have hl:cs.length=_:=hl;have hlen:xs.length=7:=hlen;have h0:=hf 0 _ rfl;rw[WW om]at h0;obtain⟨y0,e0,r0⟩:=(qh.of (gp underlying3)).ok en w sp m _ _ h0 (fun n hn=>hz n (fT hx underlying62 0 rfl (WW om) n hn));have h1:=hf 1 _ rfl;rw[WW om]at h1;obtain⟨y1,e1,r1⟩:=(Hh).ok en w sp m _ _ h1 (fun n hn=>hz n (fT hx underlying62 1 rfl (WW om) n hn));have h2:=hf 2 _ rfl;rw[WW om]at h2;obtain⟨y2,e2,r2⟩:=(qh.of Gt).ok en w sp m _ _ h2 (fun n hn=>hz n (fT hx underlying62 2 rfl (WW om) n hn));have h3:=hf 3 _ rfl;rw[WW om]at h3;obtain⟨y3,e3,r3⟩:=(qh.of DA).ok en w sp m _ _ h3 (fun n hn=>hz n (fT hx underlying62 3 rfl (WW om) n hn));have h4:=hf 4 _ rfl;rw[WW om]at h4;obtain⟨y4,e4,r4⟩:=(yl).ok en w sp m _ _ h4 (fun n hn=>hz n (fT hx underlying62 4 rfl (WW om) n hn));have h5:=hf 5 _ rfl;rw[WW om]at h5;obtain⟨y5,e5,r5⟩:=(qh.of (gp underlying3)).ok en w sp m _ _ h5 (fun n hn=>hz n (fT hx underlying62 5 rfl (WW om) n hn));have h6:=hf 6 _ rfl;rw[WW om]at h6;obtain⟨y6,e6,r6⟩:=(qh.of Gb).ok en w sp m _ _ h6 (fun n hn=>hz n (fT hx underlying62 6 rfl (WW om) n hn));exact⟨⟨y0,y1,y2,y3,y4,y5,y6⟩,(cZ e0 (cZ e1 (cZ e2 (cZ e3 (cZ e4 (cZ e5 (jz e6 (by exact hl)))))))),⟨r0,r1,r2,r3,r4,r5,r6⟩⟩⟩
def gT.mw(w:World)(q:gT):Prop:=cY w (.slice q.la q.ls.length q.lc) 35 (q.ls.flatMap ah.list)/\(∀y∈q.ls,y.mw w)/\q.v.lE w/\q.w.lE w/\q.x.mw w
theorem JQ:qh prog 62 gT gT.list gT.mw:=
 ⟨fun en w sp fuel cs x h hz=>by
   obtain⟨⟨kind,⟨la,ln,lc⟩,v,ww,xx,n,p⟩,h1,h2⟩:=Ha.ok en w sp fuel cs x h hz;obtain⟨-,⟨ls,hn,hc,hl⟩,hv,hw,hx,-,-⟩:=h2;simp only at hn;subst hn;exact⟨⟨kind,la,lc,ls,v,ww,xx,n,p⟩,h1,hc,hl,hv,hw,hx⟩⟩
variable {w0:World}
theorem wf_u16{n:Int}(h:(Lit.int .u16 n).wf=true):0<=n/\n<65536:=by
 simp[Lit.wf,IntKind.min,IntKind.max,IntKind.signed,IntKind.bits]at h;omega
theorem vw{n:Int}(h:(Lit.int .i64 n).wf=true): -9223372036854775808<=n/\n<=9223372036854775807:=by
 simp[Lit.wf,IntKind.min,IntKind.max,IntKind.signed,IntKind.bits]at h;omega
theorem Fo{α:Type}{n:Nat}{v:Vector α n}{p:α->Prop}(h:∀y∈v.toList,p y)(i:Nat)(hi:i<n):p v[i]:=h _ sm
theorem ah.mw.rd{H:List SA}{v:ah}(h:v.mw w0):Rd w0 H v:=by
 obtain⟨-,-,⟨hb,-⟩,hp,he⟩:=h;refine⟨⟨fun y hy w hw=>?_,fun y hy w hw=>?_,fun y hy z hz w hw=>?_,fun y hy=>by cases hy⟩⟩
 · obtain rfl:y=v.batch:=Xb.1 hy
   exact cY.gQ hb hw.below.block
 · obtain rfl:y=v.parts:=Xb.1 hy
   exact cY.gQ hp hw.below.block
 · obtain rfl:y=v.parts:=Xb.1 hy
   exact cY.gQ (he z hz).1 hw.below.block
theorem aj.lE.ic{W:aj}(h:W.lE w0):ja W:=by
 obtain⟨-,-,⟨-,h1⟩,⟨-,h2⟩,h3,h4⟩:=h;have k1:=wf_u16 h1;have k2:=wf_u16 h2;obtain⟨m1,e1⟩:=Xl k1.1;obtain⟨m2,e2⟩:=Xl k2.1;exact⟨⟨m1,om,e1⟩,⟨m2,om,e2⟩,fun i hi=>vw (Fo h3 i hi).2,fun i hi=>vw (Fo h4 i hi).2.2.2.2⟩
theorem gT.mw.PC{H:List SA}{q:gT}(h:q.mw w0):DW w0 H q:=by
 obtain⟨hc,hl,hv,hw,hx⟩:=h;refine⟨gy.base hc,fun x hm=>(hl x hm).rd,hx.rd,dT.base hv.2.2.2.2.2.1,gy.base hv.2.2.2.2.2.2.1,⟨fun x hm w hw=>cY.gQ (hv.2.2.2.2.2.2.2 x hm) hw.below.block⟩,hw.ic,vw hw.2.2.1.1,vw hx.1,fun x hm=>vw (hl x hm).1,fun z hz=>?_,fun x hm z hz=>?_⟩
 · have:=(hx.2.2.2.2 z hz).2;unfold reachBytes at this;omega
 · have:=((hl x hm).2.2.2.2 z hz).2;unfold reachBytes at this;omega
theorem EC{H:Type}{en:TypeId×Value->H}{w:World}{v:Value}{b:Nat}{sp:Nat->Bool}{x:DataW H}{ps:List MemPlace}(h:Value.okWide prog w .any b 22 v)(hx:DataW.Trod en prog w 0 sp true 22 v x ps)(hz:∀n∈DataW.weights prog 22 x,n<=reachBytes):∃(a:Option Addr)(c:Nat)(l:List gT),v= .slice a l.length c/\cY w (.slice a l.length c) 147 (l.flatMap gT.list)/\∀q∈l,q.mw w:=by
 obtain⟨fuel,hf⟩:=hx;rw[vX underlying22 rfl h]at hf;obtain⟨a,c,ls,h1,h2,h3⟩:=pb (n:=147) JQ underlying22 rfl om gT.ae hf hz;exact⟨a,c,ls,by simpa using h1,h2,h3⟩
end Go.Proofs.YtmbfimckmfnnjaaGreatDoor
