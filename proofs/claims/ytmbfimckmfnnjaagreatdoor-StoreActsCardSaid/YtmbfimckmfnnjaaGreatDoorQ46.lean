/- Steps of the proof of a law. -/
import Derived.Test.YtmbfimckmfnnjaaGreatDoorQ44
set_option maxRecDepth 100000
set_option maxHeartbeats 1000000
set_option linter.unusedSimpArgs false
set_option linter.unusedVariables false
namespace Go.Proofs.YtmbfimckmfnnjaaGreatDoor
open Go.RowKit Go.Sx Go.Proofs.Tryz
theorem As{w0:World}{H:List SA}{W:aj}(hg:ja W):CT prog w0 H 92 [.agg W.cells] (α:=AC) (fun y=> .slice y.a (wB W).length y.c) (fun y=>row (.slice y.a (wB W).length y.c) 5 1 (aE (wB W))::H):=by
 obtain⟨s,f,⟨n1,m1⟩,⟨n2,m2⟩,cs,rs⟩:=W;obtain⟨⟨k1,h1,e1⟩,⟨k2,h2,e2⟩,h3,h4⟩:=hg;simp only at e1 e2;subst e1;subst e2;exact ue h1 h2 h3 h4
structure XS where
 W:aj
 u:ah
 sa:Option Addr
 sc:Nat
 us:List ah
 va:Option Addr
 vc:Nat
 vs:List af
@[reducible] def XS.v(x:XS):aR:=⟨x.W,x.u,⟨x.sa,x.us.length,x.sc⟩,⟨x.va,x.vs.length,x.vc⟩⟩
@[reducible] def C7(a:Option Addr)(c:Nat)(l:List af):SA:=row (.slice a l.length c) 57 38 (l.flatMap af.list)
abbrev XS.H(x:XS)(H:List SA):List SA:=oG x.sa x.sc x.us::C7 x.va x.vc x.vs::H
abbrev XS.ss(x:XS):List iB:=x.us.map ah.abs
abbrev XS.cur(x:XS):aj:=dY x.W x.ss
structure OS where
 x:XS
 f:Int
 o:AC
 out:List ar
def OY(x:XS)(ls:List ah)(r:OS):Prop:=
 (r.f=8/\¬Dn x.cur.slot (ls.map ah.abs)/\r.x=x/\r.out=[])∨
 (r.f=0/\Dn x.cur.slot (ls.map ah.abs)/\r.x.W=x.W/\r.x.u=x.u/\r.x.us=x.us++ls/\r.x.vs=x.vs/\r.out=oF x.cur (ls.map ah.abs))
attribute [local irreducible] fH fY dS cU eX bN jt wB eV gZ dJ dY oF cN
theorem F3{w0:World}{H:List SA}{x:XS}(hru:∀y∈x.us,Rd w0 H y)(hsu:∀y∈x.us,j0 y)(hW:lL x.W)(hsl:x.W.slot+x.us.length<=90){a:Option Addr}{c:Nat}{ls:List ah}[rc:gy w0 H (.slice a ls.length c) 35 (ls.flatMap ah.list)](hrd:∀y∈ls,Rd w0 H y)(hsm:∀y∈ls,yi y)(hn:ls.length<=10):CT prog w0 (XS.H x H) 30 [.agg x.v.cells,.slice a ls.length c] (α:=OS) (fun r=> .tuple #[.agg r.x.v.cells,.slice r.o.a r.out.length r.o.c,.int .i64 r.f]) (fun r=>pu (OY x ls r)::row (.slice r.o.a (r.out).length r.o.c) 41 5 ((r.out).flatMap ar.list)::XS.H r.x H):=by
 have hcur:=l8 (W:=x.W) (x.us.map ah.abs) hW acG;rw[WZ]at hcur;have hWs:=hW.slot;have hus:x.us.length<=90:=om;refine al func30 rfl ntmps30 rfl (gG ?_);refine ze rfl (aZ rfl (fun b2=>?_));refine ze rfl (an (fun b4=>gG ?_));refine ze rfl (zc (mR (W:=x.W) (u:=x.u) (vs:=⟨x.va,x.vs.length,x.vc⟩) (sa:=x.sa) (sc:=x.sc) (ls:=x.us) (fun y hy=>by have:=hru y hy;infer_instance) hsu hW om) rfl (fun x17=>?_));refine ZP ?_;refine bH [5,6,8,19,20,21,22,23,24,25,26,27,28,29,30,31,32,33,34] [8] (fun us H'=>∃(k:Nat),us=[.int .i64 (k:Int)]/\aF b4 (.cells aR.zero.cells 54 (0,0))::aF b2 (.cells x.v.cells 54 (0,0))::oG x.sa x.sc x.us::C7 x.va x.vc x.vs::H=H'/\k<=ls.length/\(∀(i:Nat)(hi:i<k)(hl:i<ls.length),dJ ((dY x.W (x.us.map ah.abs)).slot+i) ls[i].abs=true)) (fun us=>match us with| .int _ i::_=>ls.length-i.toNat|_=>0) ⟨0,rfl,rfl,om,(fun i hi=>absurd hi (Ya i))⟩ SB ?_;rintro τ0 _ _ ⟨k,rfl,rfl,hk0,hr1⟩ _;refine gG ?_;refine yC ?_ ?_<;>intro h22 p22
 ·have hk:k<ls.length:=om;refine gG ?_;refine zq (gh rfl rfl om om) rfl ?_;refine gG ?_;refine aaH ?_;have rdk:Rd w0 H ls[k]:=hrd _ (W1 hk);have hsk:=hsm _ (W1 hk);refine ze rfl (zc (yn (behind:=(dY x.W (x.us.map ah.abs)).slot+k) (n:=ls[k].n) (h:=ls[k].hash) (b:=ls[k].batch) (p:=ls[k].parts) hsk.1 hsk.2.1 hsk.2.2) rfl (fun x32=>gG ?_));refine yC ?_ ?_<;>intro h33 p33
  ·have hno:¬Dn (dY x.W (x.us.map ah.abs)).slot (ls.map ah.abs):=fun h=>by
    have h2:=h k abf;rw[XP]at h2;rw[h2]at h33;exact absurd h33 dc
   refine gG ?_;refine aag ?_;refine Zd ?_;exact zX (⟨x,8,(⟨none,0⟩:AC),[]⟩:OS) [_,_,_] results30 ⟨⟨_,rfl,ak rfl⟩,rfl,rfl,trivial⟩ rfl (fun w hw=>((SB w hw:St w0 (XS.H x H) w).cT 41 5:St w0 (row (.slice none 0 0) 41 5 []::XS.H x H) w).aC (.inl ⟨rfl,hno,rfl,rfl⟩))
  refine gA ?_;exact xl ⟨k+1,rfl,rfl,om,(fun i hi hl=>(Nat.lt_succ_iff_lt_or_eq.1 hi).elim (fun h=>hr1 i h hl) (fun h=>by subst h;simpa using h33))⟩
 have hokd:Dn (dY x.W (x.us.map ah.abs)).slot (ls.map ah.abs):=fun i hi=>by rw[XP];exact hr1 i (by simp at hi;omega) acq
 refine gG ?_;refine Za ?_;refine ze rfl (zc (mR (W:=x.W) (u:=x.u) (vs:=⟨x.va,x.vs.length,x.vc⟩) (sa:=x.sa) (sc:=x.sc) (ls:=x.us) (fun y hy=>by have:=hru y hy;infer_instance) hsu hW om) rfl (fun x36=>?_));refine ze rfl (an (fun b10=>?_));refine aag ?_;refine Zp ?_;refine ez (fun w hw=>(SB w hw:St w0 (aF b10 (.cells (dY x.W (x.us.map ah.abs)).cells 44 (0,0))::aF b4 (.cells aR.zero.cells 54 (0,0))::aF b2 (.cells x.v.cells 54 (0,0))::oG x.sa x.sc x.us::C7 x.va x.vc x.vs::H) w).cT 50 35) ?_;refine ze rfl (cp ah.list (sv:= .slice _ _ _) (xv:= .slice _ _ _) (xs:=[]) (ys:=x.us) ah.ae ah.aS rfl rfl so rfl rfl (fun a40 c40=>?_));rw[Xh];refine gG ?_;refine bH [9,11,12,13,14,15,41,42,43,44,45,46,47,48,49,50,51,52,53,54,55,56,57,58,59,60,61,62,63,64,65,66,67,68,69,70,71] [12,9,11] (fun us H'=>∃(k:Nat)(oa:Option Addr)(oc:Nat)(ov:List ar)(na:Option Addr)(nc:Nat)(nv:List ah),us=[.int .i64 (k:Int),.slice oa ov.length oc,.slice na nv.length nc]/\row (.slice oa (ov).length oc) 41 5 ((ov).flatMap ar.list)::oG na nc nv::aF b10 (.cells (dY (dY x.W (x.us.map ah.abs)) ((ls.map ah.abs).take k)).cells 44 (0,0))::aF b4 (.cells aR.zero.cells 54 (0,0))::aF b2 (.cells x.v.cells 54 (0,0))::oG x.sa x.sc x.us::C7 x.va x.vc x.vs::H=H'/\k<=ls.length/\(ov=oF (dY x.W (x.us.map ah.abs)) ((ls.map ah.abs).take k))/\(ov.length<=4*k)/\(nv=x.us++ls.take k)) (fun us=>match us with| .int _ i::_=>ls.length-i.toNat|_=>0) ⟨0,none,0,[],a40,c40,x.us,rfl,rfl,om,by rw[XD];unfold oF;rfl,Xv _,by rw[XD,Xn]⟩ (fun w hw=>by
  rw[XD,HP];exact(SB w hw:St w0 (oG a40 c40 x.us::aF b10 (.cells (dY x.W (x.us.map ah.abs)).cells 44 (0,0))::aF b4 (.cells aR.zero.cells 54 (0,0))::aF b2 (.cells x.v.cells 54 (0,0))::oG x.sa x.sc x.us::C7 x.va x.vc x.vs::H) w).cT 41 5) ?_
 rintro τ1 _ _ ⟨k,oa,oc,ov,na,nc,nv,rfl,rfl,hk0,hov,hol,hnv⟩ _;have hfk:=l8 (W:=(dY x.W (x.us.map ah.abs))) ((ls.map ah.abs).take k) hcur.1 (by rw[Xj,WZ];omega);have hnl:nv.length=x.us.length+k:=by rw[hnv,WX,Xj];omega
 refine gG ?_;refine yC ?_ ?_<;>intro h44 p44
 ·have hk:k<ls.length:=om;refine gG ?_;refine zq (bn rfl rfl om om) rfl (zq (cm rfl 35 (by rw[fy ah.list 35 ah.ae];omega)) rfl (zq (cE 35 (.slice _ _ _) rfl (uX ls k hk)) rfl ?_));have rdk:Rd w0 H ls[k]:=hrd _ (W1 hk);refine ze rfl (zc (pI (l:=ls[k].batch.l) agH) rfl (fun x53=>?_));refine aV (fun h53=>?_);refine gG ?_;refine ze rfl (zc (Cf hfk.1.ic ahH (ls:=x53.1.2) om) rfl (fun x58=>?_));rw[h53.1];have hstep:dY (dY x.W (x.us.map ah.abs)) ((ls.map ah.abs).take (k+1))=(jt (dY (dY x.W (x.us.map ah.abs)) ((ls.map ah.abs).take k)) (bN ls[k].batch.l).2).1:=by rw[mN hk,xW];rfl
  refine ze rfl (an (fun b15=>?_));refine aag ?_;refine aag ?_;refine ZE ?_;refine ze rfl (cp ar.list (sv:= .slice _ _ _) (xv:= .slice _ _ _) (xs:=ov) (ys:=(jt (dY (dY x.W (x.us.map ah.abs)) ((ls.map ah.abs).take k)) (bN ls[k].batch.l).2).2) ar.ae ar.aS rfl rfl (by have:=pG (dY (dY x.W (x.us.map ah.abs)) ((ls.map ah.abs).take k)) ls[k].batch.l;omega) rfl rfl (fun a64 c64=>gG ?_));refine aaH ?_;refine ze rfl (cr (m:=([ls[k]]:List ah).length) [.agg ls[k].cells] (([ls[k]]:List ah).flatMap ah.list) rfl rfl rfl rfl aes rfl rfl (fun a70 c70=>?_));refine ze rfl (cp ah.list (sv:= .slice _ _ _) (xv:= .slice _ _ _) (xs:=nv) (ys:=[ls[k]]) ah.ae ah.aS rfl rfl so rfl rfl (fun a71 c71=>gA ?_));exact xl ⟨k+1,a64,c64,ov++(jt (dY (dY x.W (x.us.map ah.abs)) ((ls.map ah.abs).take k)) (bN ls[k].batch.l).2).2,a71,c71,nv++[ls[k]],rfl,rfl,om,by rw[mN hk,sY,hov];rfl,by rw[WX];have:=pG (dY (dY x.W (x.us.map ah.abs)) ((ls.map ah.abs).take k)) ls[k].batch.l;omega,by rw[hnv,W4,fR _ _ hk]⟩ (hH:=(fun w hw=>by rw[hstep];exact(SB w hw)))
 obtain rfl:k=ls.length:=om;rw[W7 (i:=ls.length) (l:=(ls.map ah.abs)) sm]at hov;rw[XE]at hnv;refine gG ?_;refine Za ?_;refine aet ?_;refine aaM ?_;refine aag ?_;exact zX (⟨(⟨x.W,x.u,na,nc,nv,x.va,x.vc,x.vs⟩:XS),0,(⟨oa,oc⟩:AC),ov⟩:OS) [_,_,_] results30 ⟨⟨_,rfl,ak rfl⟩,rfl,rfl,trivial⟩ rfl (aP (.inr ⟨rfl,hokd,rfl,rfl,hnv,rfl,hov⟩) SB)
def nt(vs:List af)(v:af):Int:=if (cU v.abs).2≠0∨30000<(cU v.abs).1.length then 15 else fh vs v
def Oc(x:XS)(v:af)(r:XS×Int):Prop:=
 r.2=nt x.vs v/\((r.2≠0/\r.1=x)∨(r.2=0/\r.1.W=x.W/\r.1.u=x.u/\r.1.us=x.us/\r.1.vs=x.vs++[v]))
attribute [local irreducible] fh nt
theorem K9{w0:World}{H:List SA}{x:XS}(hvl:x.vs.length<=1000000){v:af}[rbv:dT w0 H (.slice v.batch.a v.batch.l.length v.batch.c) v.batch.l][Cd:gy w0 H (.slice v.cert.a v.cert.ls.length v.cert.c) 1 (v.cert.ls.map BS.val)][rev:ju w0 H v.cert.ls](hs:ff v.abs):CT prog w0 (XS.H x H) 32 [.agg x.v.cells,.agg v.cells] (α:=XS×Int) (fun r=> .tuple #[.agg r.1.v.cells,.int .i64 r.2]) (fun r=>pu (Oc x v r)::XS.H r.1 H):=by
 refine al func32 rfl ntmps32 rfl (gG ?_);refine ze rfl (aZ rfl (fun b2=>?_));refine ze rfl (aZ rfl (fun b3=>?_));refine ze rfl (an (fun b4=>gG ?_));refine ze rfl (zc (JG hs) rfl (fun x12=>gG ?_));refine yS 17 ?_ ?_<;>intro h17 p17
 ·have hb:(cU v.abs).2≠0∨30000<(cU v.abs).1.length:= .inl om;refine gG ?_;refine Zc ?_;refine aag ?_;exact acy
 refine gG ?_;refine yC ?_ ?_<;>intro h21 p21
 ·have hb:(cU v.abs).2≠0∨30000<(cU v.abs).1.length:=by first|assumption|exact .inr om
  have hvf:nt x.vs v=15:=by unfold nt;rw[if_pos hb]
  refine gG ?_;refine aag ?_;exact acy
 have hvf:nt x.vs v=fh x.vs v:=by unfold nt;rw[if_neg om]
 refine gG ?_;refine afR ?_;refine gG ?_;refine ze rfl (zc (Lo (vs:=x.vs) hvl hs) rfl (fun x26=>gG ?_));refine yC ?_ ?_<;>intro h28 p28<;>refine gG ?_
 ·refine aag ?_;exact zX (x,fh x.vs v) [_,_] results32 ⟨⟨_,rfl,ak rfl⟩,rfl,trivial⟩ rfl (aP (⟨hvf.symm,.inl ⟨p28,rfl⟩⟩) SB)
 refine afR ?_;refine gG ?_;refine ez (fun w hw=>(SB w hw:St w0 (aF b4 (.cells aR.zero.cells 54 (0,0))::aF b3 (.cells v.cells 57 (0,0))::aF b2 (.cells x.v.cells 54 (0,0))::oG x.sa x.sc x.us::C7 x.va x.vc x.vs::H) w).cT 57 38) ?_;refine ze rfl (cp af.list (sv:= .slice _ _ _) (xv:= .slice _ _ _) (xs:=[]) (ys:=x.vs) af.ae af.aS rfl rfl so rfl rfl (fun a34 c34=>?_));rw[Xh];refine gG ?_;refine ze rfl (cr (m:=([v]:List af).length) [.agg v.cells] (([v]:List af).flatMap af.list) rfl rfl rfl rfl ab5 rfl rfl (fun a37 c37=>?_));refine ze rfl (cp af.list (sv:= .slice _ _ _) (xv:= .slice _ _ _) (xs:=x.vs) (ys:=[v]) af.ae af.aS rfl rfl so rfl rfl (fun a38 c38=>gG ?_));refine afR ?_;refine aaM ?_;refine aag ?_;exact zX ((⟨x.W,x.u,x.sa,x.sc,x.us,a38,c38,x.vs++[v]⟩:XS),0) [_,_] results32 ⟨⟨_,rfl,ak rfl⟩,rfl,trivial⟩ rfl (aP (⟨by show(0:Int)=nt x.vs v;omega,.inr ⟨rfl,rfl,rfl,rfl,rfl⟩⟩) SB)
def gY(x:XS):ah:=x.us.getLast?.getD x.u
theorem ny{x:XS}(h:x.us=[]):gY x=x.u:=by unfold gY;rw[h];rfl
theorem nz{x:XS}(h:0<x.us.length):gY x=x.us[x.us.length-1]:=by
 unfold gY;rw[List.getLast?_eq_getElem?,WW om];rfl
def OO(x:XS)(r:XS):Prop:=r.W=x.cur/\r.u=gY x/\r.us=[]/\r.vs=x.vs
attribute [local irreducible] gY
theorem LF{w0:World}{H:List SA}{x:XS}(hru:∀y∈x.us,Rd w0 H y)(hsu:∀y∈x.us,j0 y)(hW:lL x.W)(hsl:x.W.slot+x.us.length<=90):CT prog w0 (XS.H x H) 34 [.agg x.v.cells] (α:=XS) (fun r=> .agg r.v.cells) (fun r=>pu (OO x r)::XS.H r H):=by
 have hWs:=hW.slot;have hus:x.us.length<=90:=om;refine al func34 rfl ntmps34 rfl (gG ?_);refine ze rfl (aZ rfl (fun b1=>?_));refine ze rfl (an (fun b2=>gG ?_));refine ze rfl (zc (mR (W:=x.W) (u:=x.u) (vs:=⟨x.va,x.vs.length,x.vc⟩) (sa:=x.sa) (sc:=x.sc) (ls:=x.us) (fun y hy=>by have:=hru y hy;infer_instance) hsu hW om) rfl (fun x6=>?_));refine ze rfl (an (fun b3=>?_));refine aag ?_;refine Zp ?_;refine yC ?_ ?_<;>intro h11 p11
 ·have hpos:0<x.us.length:=om;refine gG ?_;refine Zp ?_;refine zq (bI (jG rfl rfl om om) (congrArg (Value.int .i64) (show((x.us.length:Nat):Int)-1=((x.us.length-1:Nat):Int)from by omega))) rfl (zq (bn rfl rfl om om) rfl (zq (bI (ek 35 x.us[x.us.length-1].list rfl (de _ 35 ah.ae x.us (x.us.length-1) om) (ah.ae _) dc) (show Value.agg x.us[x.us.length-1].list.toArray=Value.agg x.us[x.us.length-1].cells from rfl)) rfl (zq (zf 68 rfl rfl) rfl ?_)));refine aag ?_;refine aag ?_;refine aet ?_;refine aaM ?_;refine aa1 ?_;refine zz (zx (zQ ?_));exact aaT
 have hnil:x.us=[]:=Xr om;refine gG ?_;refine aag ?_;refine aet ?_;refine aaM ?_;refine aag ?_;exact aaT
def OQ(x:XS)(W:aj)(y:ah)(r:XS×Int):Prop:=
 (Dc x.cur.slot W y.abs r.2/\r.1=x)∨(okW x.cur.slot W y.abs/\r.2=0/\r.1.W=W/\r.1.u=y/\r.1.us=[]/\r.1.vs=x.vs)
theorem Dp{w0:World}{H:List SA}{x:XS}(hru:∀y∈x.us,Rd w0 H y)(hsu:∀y∈x.us,j0 y)(hW:lL x.W)(hsl:x.W.slot+x.us.length<=90){W:aj}(hg:ja W){n:Int}{h:Vector UInt8 32}{b:BS}{pp:PS}[rb:dT w0 H (.slice b.a b.l.length b.c) b.l][rp:gy w0 H (.slice pp.a pp.ls.length pp.c) 1 (pp.ls.map BS.val)][re:ju w0 H pp.ls](hb:b.l.length<=4294960000)(hp:pp.ls.length<=1000)(he:∀x∈pp.ls,x.l.length<=140737488351232):CT prog w0 (XS.H x H) 36 [.agg x.v.cells,.agg W.cells,.agg (ah.mk n h b pp).cells] (α:=XS×Int) (fun r=> .tuple #[.agg r.1.v.cells,.int .i64 r.2]) (fun r=>pu (OQ x W (ah.mk n h b pp) r)::XS.H r.1 H):=by
 have hWs:=hW.slot;have hus:x.us.length<=90:=om;have hcur:=l8 (W:=x.W) (x.us.map ah.abs) hW acG;rw[WZ]at hcur;refine al func36 rfl ntmps36 rfl (gG ?_);refine ze rfl (aZ rfl (fun b3=>?_));refine ze rfl (aZ rfl (fun b4=>?_));refine ze rfl (aZ rfl (fun b5=>?_));refine ze rfl (an (fun b6=>gG ?_));refine dw (aF b4 (.cells W.cells 44 (0,0))::aF b3 (.cells x.v.cells 54 (0,0))::oG x.sa x.sc x.us::C7 x.va x.vc x.vs::H) [(0,true),(1,true),(2,true),(3,false),(4,true),(5,true)] (fun hns0=>?_);refine gA ?_;refine cX rfl rfl (zc (mR (W:=x.W) (u:=x.u) (vs:=⟨x.va,x.vs.length,x.vc⟩) (sa:=x.sa) (sc:=x.sc) (ls:=x.us) (fun y hy=>by have:=hru y hy;infer_instance) hsu hW om) rfl (fun x12=>⟨SB,?_⟩));refine zd hns0 rfl (iU (ft:=3) rfl rfl) rfl ?_;refine gA ?_;refine yC ?_ ?_<;>intro h14 p14<;>refine gG ?_
 ·refine aag ?_;exact zX (x,7) [_,_] results36 ⟨⟨_,rfl,ak rfl⟩,rfl,trivial⟩ rfl (aP (.inl ⟨(show Dc (dY x.W (x.us.map ah.abs)).slot W (ah.abs (ah.mk n h b pp)) 7 from .inl ⟨om,rfl⟩),rfl⟩) SB)
 refine ze rfl (zc (As hg) rfl (fun x17=>?_));refine ze rfl (zc (Bf (l:=wB W) (by have:=wY hg;omega)) rfl (fun x18=>?_));refine ze rfl (an (fun b8=>?_));refine aag ?_;refine yS 22 ?_ ?_<;>intro h22 p22
 ·have hno:¬okW (dY x.W (x.us.map ah.abs)).slot W (ah.abs (ah.mk n h b pp)):=fun h=>by have:=h.2.1;omega
  refine gG ?_;refine Zc ?_;refine aag ?_;exact aa3
 refine gG ?_;refine ZE ?_;refine yS 27 ?_ ?_<;>intro h27 p27
 ·have hno:¬okW (dY x.W (x.us.map ah.abs)).slot W (ah.abs (ah.mk n h b pp)):=fun h=>absurd h.2.2.1 om;refine gG ?_;refine Zc ?_;refine aag ?_;exact aa3
 refine gG ?_;refine zq (nV rfl rfl) rfl ?_;refine gG ?_;refine yS 33 ?_ ?_<;>intro h33 p33
 ·have hno:¬okW (dY x.W (x.us.map ah.abs)).slot W (ah.abs (ah.mk n h b pp)):=fun h=>by rw[decide_eq_true h.2.2.2.1]at h33;exact absurd h33 dc
  refine gG ?_;refine Zc ?_;refine aag ?_;exact aa3
 have hww:(cN (wB W)).2=W:=aeJ;refine gA ?_;refine ze rfl (zc (yn (behind:=W.slot-1) (n:=n) (h:=h) (b:=b) (p:=pp) hb hp he) rfl (fun x38=>gG ?_));refine yC ?_ ?_<;>intro h40 p40
 ·have hno:¬okW (dY x.W (x.us.map ah.abs)).slot W (ah.abs (ah.mk n h b pp)):=by first|assumption|exact fun h=>by rw[h.2.2.2.2]at h40;exact absurd h40 dc
  refine gG ?_;refine aag ?_;exact aa3
 have hrt:dJ (W.slot-1) (ah.abs (ah.mk n h b pp))=true:=by simpa using h40
 have hok:okW (dY x.W (x.us.map ah.abs)).slot W (ah.abs (ah.mk n h b pp)):=⟨om,om,om,hww,hrt⟩;refine gG ?_;refine aag ?_;refine zq (zf 68 rfl rfl) rfl ?_;refine aag ?_;refine aet ?_;refine aaM ?_;refine aag ?_;exact zX ((⟨W,(ah.mk n h b pp),none,0,[],x.va,x.vc,x.vs⟩:XS),0) [_,_] results36 ⟨⟨_,rfl,ak rfl⟩,rfl,trivial⟩ rfl (fun w hw=>((SB w hw:St w0 (C7 x.va x.vc x.vs::H) w).cT 50 35:St w0 (XS.H (⟨W,(ah.mk n h b pp),none,0,[],x.va,x.vc,x.vs⟩:XS) H) w).aC (.inr ⟨hok,rfl,rfl,rfl,rfl,rfl⟩))
end Go.Proofs.YtmbfimckmfnnjaaGreatDoor
