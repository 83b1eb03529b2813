/- Steps of the proof of a law. -/
import Derived.Test.YtmbfimckmfnnjaaGreatDoorQ45
import Derived.Test.YtmbfimckmfnnjaaGreatDoorQ46
set_option maxRecDepth 100000
set_option maxHeartbeats 1000000
set_option linter.unusedSimpArgs false
set_option linter.unusedVariables false
namespace Go.Proofs.YtmbfimckmfnnjaaGreatDoor
open Go.RowKit Go.Sx Go.Proofs.Tryz
section
structure gT where
 kind:Int
 la:Option Addr
 lc:Nat
 ls:List ah
 v:af
 w:aj
 x:ah
 n:Int
 p:cz
@[reducible] def gT.a(q:gT):cQ:=⟨q.kind,⟨q.la,q.ls.length,q.lc⟩,q.v,q.w,q.x,q.n,q.p⟩
@[reducible] def gT.list(q:gT):List Value:=q.a.list
@[reducible] def gT.cells(q:gT):Array Value:=q.a.cells
variable {u:Value}
theorem gT.ae(q:gT):q.list.length=147:=q.a.ae
structure DW(w0:World)(H:List SA)(q:gT):Prop where
 rc:gy w0 H (.slice q.la q.ls.length q.lc) 35 (q.ls.flatMap ah.list)
 rd:∀x∈q.ls,Rd w0 H x
 rx:Rd w0 H q.x
 rb:dT w0 H (.slice q.v.batch.a q.v.batch.l.length q.v.batch.c) q.v.batch.l
 Cd:gy w0 H (.slice q.v.cert.a q.v.cert.ls.length q.v.cert.c) 1 (q.v.cert.ls.map BS.val)
 re:ju w0 H q.v.cert.ls
 gw:ja q.w
 num:db q.w.view.num
 xn:db q.x.n
 ln:∀x∈q.ls,db x.n
 xz:∀z∈q.x.parts.ls,z.l.length<=140737488351232
 lz:∀x∈q.ls,∀z∈x.parts.ls,z.l.length<=140737488351232
structure NR(q:gT):Prop where
 len:q.ls.length<=6
 xp:q.x.parts.ls.length<=20
 xb:q.x.batch.l.length<=3000
 v:mq ([q.v].map af.abs)=false
 lb:∀x∈q.ls,x.batch.l.length<=3000/\x.parts.ls.length<=20
theorem rH(l:List gT)(i j:Nat)(hi:i<l.length)(hj:j<147)(h:aw l[i].cells j u):(l.flatMap gT.list)[i*147+j]? =some u:=by
 rw[iL gT.list 147 gT.ae l i j hi hj];exact s3 (l:=l[i].list) h
theorem CC(l:List gT)(i j k m:Nat)(hm:j+k=m)(hi:i<l.length)(hj:m<147)(h:aw l[i].cells m u):(l.flatMap gT.list)[i*147+j+k]? =some u:=by
 subst hm;rw[X9];exact rH l i (j+k) hi hj h
theorem lJ{l:List gT}{i:Nat}(hi:i<l.length):0<(l.flatMap gT.list).length:=by rw[fy _ 147 gT.ae];omega
theorem IB(l:List gT)(i:Nat)(hi:i<l.length):((l.flatMap gT.list).drop (i*147+2)).take 38=l[i].v.list:=by
 have h:=de gT.list 147 gT.ae l i hi;have e:(l.flatMap gT.list).drop (i*147+2)=((l.flatMap gT.list).drop (i*147)).drop 2:=by rw[X2]
 have h2:((l.flatMap gT.list).drop (i*147)).take 147=l[i].list:=h;have h3:((((l.flatMap gT.list).drop (i*147)).drop 2).take 38)=(l[i].list.drop 2).take 38:=by
   rw[←h2,List.drop_take,List.take_take];rfl
 rw[e,h3];show((cQ.list l[i].a).drop 2).take 38=_;unfold cQ.list;simp only[XG,Xh,List.drop_succ_cons,XI];rw[X4 (by rw[af.ae];exact W8 _),W7 (by rw[af.ae];exact W8 _)]
theorem Cw(ls:List ah)(i j:Nat)(hi:i<ls.length)(hj:j<35)(h:aw ls[i].cells j u):(ls.flatMap ah.list)[i*35+j]? =some u:=by
 rw[iL ah.list 35 ah.ae ls i j hi hj];exact s3 (l:=ls[i].list) h
theorem CF{l:List ah}{i:Nat}(hi:i<l.length):0<(l.flatMap ah.list).length:=by rw[fy _ 35 ah.ae];omega
theorem Ig{w0:World}{H:List SA}{a:Option Addr}{l:List gT}{c:Nat}[hr:gy w0 H (.slice a l.length c) 147 (l.flatMap gT.list)](hA:∀q∈l,DW w0 H q):CT prog w0 (H) 6 [.slice a l.length c] (α:=Bool) (fun b=> .bool b) (fun b=>pu (b=false->l.length<=30/\∀q∈l,NR q)::H):=by
 refine al func6 rfl ntmps6 rfl (gG ?_);refine yC ?_ ?_<;>intro h7 p7<;>(try simp only at p7)<;>refine gG ?_
 ·exact aaX
 refine bH [2,3,4,10,11,12,13,14,15,16,17,18,19,20,21,22,23,24,25,26,27,28,29,30,31,32,33,34,35,36,37,38,39,40,41,42,43,44,45,46,47,48,49,50,51,52,53,54,55,56,57,58,59,60,61,62,63,64,65,66,67,68,69,70,71,72,73,74,75,76,77,78,79,80,81,82,83] [10] (fun us H'=>∃(k:Nat),us=[.int .i64 (k:Int)]/\H=H'/\k<=l.length/\(∀(i:Nat)(hi:i<l.length),i<k->NR l[i])) (fun us=>match us with| .int _ i::_=>l.length-i.toNat|_=>0) ⟨0,rfl,rfl,om,(fun i hi h=>absurd h (Ya i))⟩ SB ?_;rintro τ0 _ _ ⟨k,rfl,rfl,hk0,hpre⟩ _;refine gG ?_;refine yC ?_ ?_<;>intro h11 p11<;>try simp only at p11
 ·have hk:k<l.length:=om;refine gG ?_;refine ZR ?_;refine yS 20 ?_ ?_<;>intro h20 p20<;>try simp only at p20
  ·refine zp rfl rfl h20 rfl (zp rfl rfl h20 rfl (zp rfl rfl h20 rfl (zp rfl rfl h20 rfl (zp rfl rfl h20 rfl (zp rfl rfl h20 rfl (zp rfl rfl h20 rfl (zp rfl rfl h20 rfl ?_)))))));refine zq (zT (.bool _) rfl h20 rfl) rfl (zq (zm (.bool _) rfl) rfl (zp rfl rfl rfl rfl (zp rfl rfl rfl rfl (zp rfl rfl rfl rfl (zp rfl rfl rfl rfl (zp rfl rfl rfl rfl (zp rfl rfl rfl rfl ?_)))))));refine zp rfl rfl rfl rfl (zp rfl rfl rfl rfl (zq (zT (.bool _) rfl rfl rfl) rfl (zq (zm (.bool _) rfl) rfl (zp rfl rfl rfl rfl (zp rfl rfl rfl rfl (zp rfl rfl rfl rfl (zp rfl rfl rfl rfl ?_)))))));refine zp rfl rfl rfl rfl (zp rfl rfl rfl rfl ?_);have hd:=hA _ (W1 hk);have rvv:jF w0 H [l[k].v]:=⟨fun v hv=>by rw[Xb.1 hv];exact hd.rb,fun v hv=>by rw[Xb.1 hv];exact hd.Cd,fun v hv=>by rw[Xb.1 hv];exact hd.re⟩;refine gG ?_;refine Zc ?_;refine Zd ?_;exact aaX
  refine gG ?_;refine Zo ?_;refine Zz ?_;refine Zz ?_;refine zq (cE 147 (.slice _ _ _) rfl (CC l k 108 34 142 rfl hk dc inferInstance)) rfl ?_;refine gG ?_;refine yS 30 ?_ ?_<;>intro h30 p30<;>try simp only at p30
  ·refine zp rfl rfl h30 rfl (zp rfl rfl h30 rfl (zp rfl rfl h30 rfl (zp rfl rfl h30 rfl (zp rfl rfl h30 rfl (zp rfl rfl h30 rfl (zp rfl rfl h30 rfl (zp rfl rfl h30 rfl ?_)))))));refine zq (zT (.bool _) rfl h30 rfl) rfl (zq (zm (.bool _) rfl) rfl (zp rfl rfl rfl rfl (zp rfl rfl rfl rfl (zp rfl rfl rfl rfl (zp rfl rfl rfl rfl (zp rfl rfl rfl rfl (zp rfl rfl rfl rfl ?_)))))));have hd:=hA _ (W1 hk);have rvv:jF w0 H [l[k].v]:=⟨fun v hv=>by rw[Xb.1 hv];exact hd.rb,fun v hv=>by rw[Xb.1 hv];exact hd.Cd,fun v hv=>by rw[Xb.1 hv];exact hd.re⟩;refine gG ?_;refine Zc ?_;refine Zd ?_;exact aaX
  refine gG ?_;refine Zo ?_;refine Zz ?_;refine Zz ?_;refine zq (cE 147 (.slice _ _ _) rfl (CC l k 108 33 141 rfl hk dc inferInstance)) rfl ?_;refine gG ?_;refine yS 40 ?_ ?_<;>intro h40 p40<;>try simp only at p40
  ·refine zp rfl rfl h40 rfl (zp rfl rfl h40 rfl (zp rfl rfl h40 rfl (zp rfl rfl h40 rfl (zp rfl rfl h40 rfl (zp rfl rfl h40 rfl ?_)))));have hd:=hA _ (W1 hk);have rvv:jF w0 H [l[k].v]:=⟨fun v hv=>by rw[Xb.1 hv];exact hd.rb,fun v hv=>by rw[Xb.1 hv];exact hd.Cd,fun v hv=>by rw[Xb.1 hv];exact hd.re⟩;refine gG ?_;refine Zc ?_;refine Zd ?_;exact aaX
  refine gG ?_;refine Zo ?_;refine Zz ?_;refine zq (bI (ek 147 l[k].v.list rfl (IB l k hk) (af.ae _) dc) (show Value.agg l[k].v.list.toArray=Value.agg l[k].v.cells from rfl)) rfl ?_;refine gG ?_;refine ze rfl (cr (m:=([l[k].v]:List af).length) [.agg l[k].v.cells] (([l[k].v]:List af).flatMap af.list) rfl rfl rfl rfl ab5 rfl rfl (fun a46 c46=>?_));have hd:=hA _ (W1 hk);have rvv:jF w0 H [l[k].v]:=⟨fun v hv=>by rw[Xb.1 hv];exact hd.rb,fun v hv=>by rw[Xb.1 hv];exact hd.Cd,fun v hv=>by rw[Xb.1 hv];exact hd.re⟩;refine gG ?_;refine ze rfl (zc (NK (vs:=[l[k].v])) rfl (fun x47=>gG ?_));refine yC ?_ ?_<;>intro h48 p48<;>try simp only at p48
  ·refine gG ?_;refine Zd ?_;exact aaX
  have hlg:mq ([l[k].v].map af.abs)=false:=h48;refine gG ?_;refine ZR ?_;refine bH [2,4,55,56,57,58,59,60,61,62,63,64,65,66,67,68,69,70,71,72,73,74,75,76,77,78,79,80,81,82] [55] (fun us H'=>∃(j:Nat),us=[.int .i64 (j:Int)]/\H=H'/\j<=l[k].ls.length/\(∀(i:Nat)(hi:i<l[k].ls.length),i<j->l[k].ls[i].batch.l.length<=3000/\l[k].ls[i].parts.ls.length<=20)) (fun us=>match us with| .int _ i::_=>l[k].ls.length-i.toNat|_=>0) ⟨0,rfl,rfl,om,(fun i hi h=>absurd h (Ya i))⟩ SB ?_;rintro τ1 _ _ ⟨j,rfl,rfl,hj0,hin⟩ _;refine gG ?_;refine yC ?_ ?_<;>intro h56 p56<;>try simp only at p56
  ·have hj:j<l[k].ls.length:=om;refine gG ?_;refine ZR ?_;have hrl:=(hA _ (W1 hk)).rc;refine zq (bn rfl rfl om om) rfl (zq (cm rfl 35 (CF hj)) rfl (zq (cE 35 (.slice _ _ _) rfl (Cw l[k].ls j 33 hj dc inferInstance)) rfl ?_));refine gG ?_;refine yS 69 ?_ ?_<;>intro h69 p69<;>try simp only at p69
   ·refine zp rfl rfl h69 rfl (zp rfl rfl h69 rfl (zp rfl rfl h69 rfl (zp rfl rfl h69 rfl (zp rfl rfl h69 rfl (zp rfl rfl h69 rfl ?_)))));have hrl:=(hA _ (W1 hk)).rc;refine gG ?_;refine Zc ?_;refine Zd ?_;refine Zd ?_;exact aaX
   refine gG ?_;refine Zo ?_;refine Zz ?_;refine zq (cE 147 (.slice _ _ _) rfl (rH l k 1 hk dc inferInstance)) rfl (zt rfl rfl h69 (zq (zm (.int .i64 _) rfl) rfl ?_));have hrl:=(hA _ (W1 hk)).rc;refine gG ?_;refine Zo ?_;refine zq (cm rfl 35 (CF hj)) rfl ?_;refine gG ?_;refine zq (cE 35 (.slice _ _ _) rfl (Cw l[k].ls j 34 hj dc inferInstance)) rfl ?_;refine gG ?_;refine yC ?_ ?_<;>intro h81 p81<;>try simp only at p81
   ·refine gG ?_;refine Zd ?_;refine Zd ?_;exact aaX
   have hone:l[k].ls[j].batch.l.length<=3000/\l[k].ls[j].parts.ls.length<=20:=⟨om,om⟩;refine gA ?_;exact xl ⟨j+1,rfl,rfl,om,(fun i hi h=>by rcases X7 i j with h1|h1;exact hin i hi h1;obtain rfl:i=j:=om;exact hone)⟩
  have hjn:j=l[k].ls.length:=om;refine gG ?_;refine ZA ?_;exact xl ⟨k+1,rfl,rfl,om,(fun i hi h=>by rcases X7 i k with h1|h1;exact hpre i hi h1;obtain rfl:i=k:=om;exact⟨om,om,om,hlg,fun x hx=>by obtain⟨j2,hj2,rfl⟩:=XU hx;exact hin j2 hj2 om⟩)⟩
 refine gG ?_;refine Za ?_;exact zX false [_] results6 ⟨rfl,trivial⟩ rfl (fun w hw=>(SB w hw:St w0 H w).aC (fun _=>⟨om,fun q hq=>by obtain⟨i,hi,rfl⟩:=XU hq;exact hpre i hi om⟩))
end
section
variable {z:du} {w0:World} {H:List SA} {y:cb} {x:XS} {W:aj} {x0:iB} {xs:List iB}
theorem GB{L:List af}(h:∀i (hi:i<L.length),fh (L.take i) L[i]=0):qQ L:=fun v hv=>by
 obtain⟨i,hi,rfl⟩:=XU hv;exact Gr (h i hi)
structure kR(w0:World)(H:List SA)(z:du)(y:cb)(x:XS):Prop where
 st:z.Is x.W x.u.abs x.ss
 fit:lL x.W
 slot:x.W.slot+x.us.length<=60
 rd:∀s∈x.us,Rd w0 H s
 sm:∀s∈x.us,ib s.abs
 N0:Rd w0 H x.u
 N4:ib x.u.abs
 AH:y.Ok
 same:ir y.abs x.vs
 nW:∀i (hi:i<x.vs.length),fh (x.vs.take i) x.vs[i]=0
 rv:jF w0 H x.vs
 xX:∀v∈x.vs,mq [v.abs]=false
 Jl:x.vs.length<=30
theorem kR.last(h:kR w0 H z y x):Rd w0 H (gY x)/\ib (gY x).abs/\z.last.abs=(gY x).abs:=by
 rcases YH x.us.length with h0|h0
 · have hn:x.us=[]:=Xr h0
   rw[ny hn];refine⟨h.N0,h.N4,?_⟩;rw[h.st.last];unfold XS.ss;rw[hn];rfl
 · rw[nz h0]
   have hm:=W1 (l:=x.us) (n:=x.us.length-1) om;refine⟨h.rd _ hm,h.sm _ hm,?_⟩;rw[h.st.last];unfold Fj XS.ss;rw[List.getLast?_eq_getElem?,WZ,XZ,WW om];rfl
theorem kR.put(h:kR w0 H z y x):qQ x.vs:=GB h.nW
theorem kR.JE(h:kR w0 H z y x):∀v∈x.vs,ff v.abs:=fun v hv=>qv (h.xX v hv) _ (Xb.2 rfl)
theorem du.Is.ws(h:z.Is W x0 xs):z.w.slot=W.slot+xs.length:=by rw[h.w,pR]
theorem du.Is.SG(h:z.Is W x0 xs){k:Nat}(hk:k<=xs.length):w9 z (W.slot+k)=(fH (wB (dY W (xs.take k))),true):=by
 have h1:=h.ws;have h2:=h.saved;have hl:z.ds.length=xs.length+1:=by rw[h.ds,mS]
 have e:(W.slot+(k:Int)-z.saved).toNat=k:=by rw[h2];omega
 rw[E7 (by rw[h1,h2];omega) (by rw[e,hl];omega)];have e2:z.ds[(W.slot+(k:Int)-z.saved).toNat]'(by rw[e,hl];omega)=fH (wB (dY W (xs.take k))):=by
   have h3:z.ds[k]? =some (fH (wB (dY W (xs.take k)))):=by
     rw[h.ds];unfold tC;rw[XZ,List.getElem?_range om];rfl
   have h4:z.ds[(W.slot+(k:Int)-z.saved).toNat]? =some (fH (wB (dY W (xs.take k)))):=by rw[e];exact h3
   rw[WW (by rw[e,hl];omega)]at h4;exact YC h4
 rw[e2]
theorem du.Is.MP(h:z.Is W x0 xs){n:Int}(hn:n<W.slot∨W.slot+xs.length<n):w9 z n=(zeroV 32,false):=zZ (by rw[h.ws,h.saved];omega)
theorem Lr{ls ms:List ah}(h:ls.map ah.abs=ms.map ah.abs){k:Nat}(hk:k<ls.length)(hm:k<ms.length):ls[k].abs=ms[k].abs:=by
 have h1:(ls.map ah.abs)[k]? =(ms.map ah.abs)[k]? :=by rw[h]
 rw[XZ,XZ,WW hk,WW hm]at h1;exact YC h1
instance (priority:=low) Wh{f0:aj}{f1:ah}{f2 f3:Sl}{i:Nat}{v:Value}[h:aw f0.cells i v]:aw (aR.mk f0 f1 f2 f3).cells i v:=by rw[aR.head];exact oM _ h
attribute [local irreducible] fH fY dS cU eX bN jt wB eV gZ dJ dY oF cN w9 tC fg gY fh
theorem uN{q sb p bp:Nat}{lo:Option Addr}{fu:Bool}(hG:kR w0 H z y x):CT prog w0 (bE q sb p lo bp fu::cb.H y bp (du.H z sb (XS.H x H))) 12 [.pointer (some ⟨q,0,none⟩),.agg x.v.cells] (α:=Unit) (fun _=> .bool true) (fun _=>bE q sb p lo bp fu::cb.H y bp (du.H z sb (XS.H x H))):=by
 have hWs:=hG.fit.slot;have hsl:=hG.slot;have hzl:z.aT.length=x.us.length:=by rw[←WZ (f:=ah.abs),hG.st.aT,WZ]
 have hzw:=hG.st.ws;rw[WZ]at hzw;have hzs:=hG.st.saved;have hzd:z.ds.length=x.us.length+1:=by rw[hG.st.ds,mS,WZ]
 have hvl:=hG.Jl;have hcur:=l8 (W:=x.W) (x.us.map ah.abs) hG.fit acG;rw[WZ]at hcur;refine al func12 rfl ntmps12 rfl (gG ?_);refine ze rfl (aZ rfl (fun b3=>gG ?_));refine ZE ?_;refine ze rfl (an (fun b5=>?_));refine aa1 ?_;refine zz (zx (kT [6,21,22,23,24,25,26,27,28,29,30,31] [] (fun us H'=>us=[]/\(aF b5 (.cells (gY x).cells 50 (0,0))::aF b3 (.cells x.v.cells 54 (0,0))::bE q sb p lo bp fu::cb.H y bp (du.H z sb (XS.H x H)))=H') ?_ ?_))
 ·refine gG ?_;refine Zp ?_;refine yC ?_ ?_<;>intro h25 p25
  ·have hpos:0<x.us.length:=om;refine gG ?_;refine Zp ?_;refine zq (bI (jG rfl rfl om om) (congrArg (Value.int .i64) (show((x.us.length:Nat):Int)-1=((x.us.length-1:Nat):Int)from by omega))) rfl (zq (bn rfl rfl om om) rfl (zq (bI (ek 35 x.us[x.us.length-1].list rfl (de _ 35 ah.ae x.us (x.us.length-1) om) (ah.ae _) dc) (show Value.agg x.us[x.us.length-1].list.toArray=Value.agg x.us[x.us.length-1].cells from rfl)) rfl ?_));refine aag ?_;refine dU _ zA af1 (SB)
  have hnil:x.us=[]:=Xr om;refine gG ?_;refine dU _ zA af1 (SB)
 rintro τc0 _ _ ⟨-,rfl⟩ _;refine gG ?_;refine abw ?_;refine ze rfl (zc (Iq (q:=q) (sb:=sb) (p:=p) (bp:=bp) (lo:=lo) (fu:=fu) (y:=z) hG.st.ok om) rfl (fun x33=>?_));refine aV (fun h33=>?_);have h33l:x33.1.2.length=x.us.length:=by have h1:=congrArg List.length (h33.trans hG.st.aT);rw[WZ,WZ]at h1;exact h1
 refine gG ?_;refine dw (aF b5 (.cells (gY x).cells 50 (0,0))::aF b3 (.cells x.v.cells 54 (0,0))::oG x.sa x.sc x.us::C7 x.va x.vc x.vs::H) [(0,true),(2,true),(1,false),(3,false),(4,true),(5,true),(6,true),(8,true),(7,false),(9,false),(10,true),(11,true),(12,true),(13,true),(15,true),(16,true),(17,true),(14,false),(18,true),(19,true),(20,true),(21,true),(22,true),(23,true),(24,true),(25,true),(26,true),(27,true)] (fun hns1=>?_);refine gA ?_;refine abU ?_;refine cX rfl rfl (zc (JO (q:=q) (sb:=sb) (p:=p) (bp:=bp) (lo:=lo) (fu:=fu) (v:=z.v)) rfl (fun x35=>⟨SB,?_⟩));refine cX rfl rfl (zc (mR (W:=x.W) (u:=x.u) (vs:=⟨x.va,x.vs.length,x.vc⟩) (sa:=x.sa) (sc:=x.sc) (ls:=x.us) (fun s hs=>by have:=hG.rd s hs;infer_instance) (fun s hs=>(hG.sm s hs).lB) hG.fit om) rfl (fun x37=>⟨SB,?_⟩));refine zd hns1 rfl (nV rfl rfl) rfl ?_;refine gA ?_;refine yD 39 ?_ ?_<;>intro h39 p39
 ·exact absurd hG.st.w ah1
 refine gA ?_;refine gX (fun w hw=>(SB w hw:St w0 (bE q sb p lo bp fu::du.H z sb (oG x33.1.1.a x33.1.1.c x33.1.2::dX x33.2 (dD x33.1.2)::aF b5 (.cells (gY x).cells 50 (0,0))::aF b3 (.cells x.v.cells 54 (0,0))::cb.H y bp (XS.H x H))) w)) ?_;refine lF rfl rfl rfl h39 rfl (zc (KT (q:=q) (sb:=sb) (p:=p) (bp:=bp) (lo:=lo) (fu:=fu) (y:=z) hG.st.ok) rfl (fun x41=>⟨SB,?_⟩));refine im (fun h41=>?_);obtain⟨hl1,hl2,hl3⟩:=hG.last;have hl4:Rd w0 (XS.H x H) (gY x):=by infer_instance
 refine lF rfl rfl rfl h39 rfl (zc (uO (x:=x41.1) (y:=gY x) (ib.lB (by rw[h41,hl3];exact hl2))) rfl (fun x43=>⟨SB,?_⟩));rw[yj.2 (h41.trans hl3)];refine bB hns1 rfl rfl rfl h39 (tm rfl) rfl ?_;refine zd hns1 rfl (zF (.bool _) rfl h39 rfl) rfl (zd hns1 rfl (zm (.bool _) rfl) rfl ?_);refine bB hns1 rfl rfl rfl rfl (zm (.pointer _) rfl) rfl ?_;refine ahh ?_;refine ahh ?_;refine gA ?_;refine abU ?_;refine lF rfl rfl rfl rfl rfl (zc (Ij (q:=q) (sb:=sb) (p:=p) (bp:=bp) (lo:=lo) (fu:=fu) (v:=z.v)) rfl (fun x48=>⟨SB,?_⟩));refine gA ?_;refine yD 54 ?_ ?_<;>intro h54 p54
 ·exact absurd hzs (by simpa using h54)
 refine bB hns1 rfl rfl rfl h54 (zm (.slice _ _ _) rfl) rfl ?_;refine agD ?_;refine bB hns1 rfl rfl rfl h54 (zf 103 rfl rfl) rfl ?_;refine bB hns1 rfl rfl rfl h54 (zl rfl) rfl ?_;refine agD ?_;refine gA ?_;refine yC ?_ ?_<;>intro h61 p61
 ·exfalso
  omega
 refine gG ?_;refine bH [4,8,64,65,66,67,68,69,70,71,72,73,74,75,76,77,78] [64] (fun us H'=>∃(k:Nat),us=[.int .i64 (k:Int)]/\oG x33.1.1.a x33.1.1.c x33.1.2::dX x33.2 (dD x33.1.2)::bE q sb p lo bp fu::aF b5 (.cells (gY x).cells 50 (0,0))::aF b3 (.cells x.v.cells 54 (0,0))::cb.H y bp (du.H z sb (XS.H x H))=H'/\k<=x33.1.2.length) (fun us=>match us with| .int _ i::_=>x33.1.2.length-i.toNat|_=>0) ⟨0,rfl,rfl,om⟩ SB ?_;rintro τ0 _ _ ⟨k,rfl,rfl,hk0⟩ _;refine gG ?_;refine yC ?_ ?_<;>intro h65 p65
 ·have hk:k<x33.1.2.length:=om;have hku:k<x.us.length:=om;have hek:x33.1.2[k].abs=x.us[k].abs:=Lr (h33.trans hG.st.aT) hk hku;refine gG ?_;refine dw (oG x33.1.1.a x33.1.1.c x33.1.2::aF b3 (.cells x.v.cells 54 (0,0))::oG x.sa x.sc x.us::C7 x.va x.vc x.vs::H) [(0,true),(1,true),(2,true),(3,true),(4,true),(5,true),(6,true),(7,true),(8,true),(9,false),(10,true)] (fun hns2=>?_);refine zd hns2 rfl (zm (.slice _ _ _) rfl) rfl (zd hns2 rfl (zm (.int .i64 _) rfl) rfl (zd hns2 rfl (bn rfl rfl om om) rfl (zd hns2 rfl (bI (ek 35 x33.1.2[k].list rfl (de _ 35 ah.ae x33.1.2 k hk) (ah.ae _) dc) (show Value.agg x33.1.2[k].list.toArray=Value.agg x33.1.2[k].cells from rfl)) rfl (zd hns2 rfl (zf 103 rfl rfl) rfl (zd hns2 rfl (zl rfl) rfl (zd hns2 rfl (zm (.int .i64 _) rfl) rfl (zd hns2 rfl (bn rfl rfl om om) rfl ?_)))))));refine zd hns2 rfl (bI (ek 35 x.us[k].list rfl (de _ 35 ah.ae x.us k hku) (ah.ae _) dc) (show Value.agg x.us[k].list.toArray=Value.agg x.us[k].cells from rfl)) rfl ?_;have rdk:Rd w0 (dX x33.2 (dD x33.1.2)::bE q sb p lo bp fu::aF b5 (.cells (gY x).cells 50 (0,0))::aF b3 (.cells x.v.cells 54 (0,0))::cb.H y bp (du.H z sb (XS.H x H))) x33.1.2[k]:=IZ (W1 hk);have N0:Rd w0 H x.us[k]:=hG.rd _ (W1 hku);refine cX rfl rfl (zc (uO (x:=x33.1.2[k]) (y:=x.us[k]) (ib.lB (by rw[hek];exact hG.sm _ (W1 hku)))) rfl (fun x76=>⟨SB,?_⟩));rw[yj.2 hek];refine gA ?_;refine ZL ?_;exact acI
 refine gG ?_;refine Za ?_;refine bH [4,9,10,11,79,80,81,82,83,84,85,86,87,88,89,90,91,92,93,94,95,96,97,98,99,100,101,102,103,104,105] [9] (fun us H'=>∃(k:Nat),us=[.int .i64 (k:Int)]/\bE q sb p lo bp fu::aF b5 (.cells (gY x).cells 50 (0,0))::aF b3 (.cells x.v.cells 54 (0,0))::cb.H y bp (du.H z sb (XS.H x H))=H'/\k<=(x.us.length+1)) (fun us=>match us with| .int _ i::_=>(x.us.length+1)-i.toNat|_=>0) ⟨0,rfl,rfl,om⟩ SB ?_;rintro τ1 _ _ ⟨k,rfl,rfl,hk0⟩ _;refine gG ?_;refine Zp ?_;refine yC ?_ ?_<;>intro h83 p83<;>refine gG ?_
 ·refine zq (gh rfl rfl om om) rfl ?_;refine abw ?_;refine ze rfl (zc (s5 (q:=q) (sb:=sb) (p:=p) (bp:=bp) (lo:=lo) (fu:=fu) (y:=z) (n:=x.W.slot+k) om om om) rfl (fun x93=>?_));rw[hG.st.SG (k:=k) acG];refine gG ?_;refine ze rfl (an (fun b10=>?_));refine aag ?_;refine dw (aF b10 (.cells (aX (fH (wB (dY x.W ((x.us.map ah.abs).take k))))).toArray 46 (0,0))::aF b3 (.cells x.v.cells 54 (0,0))::oG x.sa x.sc x.us::C7 x.va x.vc x.vs::H) [(0,true),(1,true),(2,true),(3,true),(4,true),(5,true),(6,false),(7,false),(8,true),(9,true)] (fun hns3=>?_);refine gA ?_;refine yD 98 ?_ ?_<;>intro h98 p98
  ·exact absurd h98 sm
  refine gA ?_;refine lF rfl rfl rfl h98 rfl (zc (v8 (W:=x.W) (u:=x.u) (vs:=⟨x.va,x.vs.length,x.vc⟩) (sa:=x.sa) (sc:=x.sc) (ls:=x.us) (fun s hs=>by have:=hG.rd s hs;infer_instance) (fun s hs=>(hG.sm s hs).lB) hG.fit om (m:=k) om) rfl (fun x102=>⟨SB,?_⟩));refine lF rfl rfl rfl h98 rfl (zc (Ds (l8 (W:=x.W) ((x.us.map ah.abs).take k) hG.fit ae5).1.ic) rfl (fun x103=>⟨SB,?_⟩));refine bB hns3 rfl rfl rfl h98 (mi rfl rfl kr) rfl ?_;refine gA ?_;refine yC ?_ ?_<;>intro h105 p105
  ·exact absurd h105 sm
  refine gA ?_;exact acI
 refine Za ?_;refine dw (aF b3 (.cells x.v.cells 54 (0,0))::oG x.sa x.sc x.us::C7 x.va x.vc x.vs::H) [(0,true),(2,true),(3,true),(1,false),(4,false),(5,true),(6,true)] (fun hns4=>?_);refine zd hns4 rfl (zm (.pointer _) rfl) rfl (zd hns4 rfl (zf 104 rfl rfl) rfl ?_);refine gA ?_;refine gX (fun w hw=>(SB w hw:St w0 (bE q sb p lo bp fu::cb.H y bp (aF b5 (.cells (gY x).cells 50 (0,0))::aF b3 (.cells x.v.cells 54 (0,0))::du.H z sb (XS.H x H))) w)) ?_;refine cX rfl rfl (zc (HZ (q:=q) (sb:=sb) (p:=p) (bp:=bp) (lo:=lo) (fu:=fu) (y:=y) hG.AH (keys_in hG.same hG.put) (by have:=wP hG.AH hG.same;omega)) rfl (fun x107=>⟨SB,?_⟩));refine im (fun h107=>?_);have htold:=Cz hG.AH hG.same hG.put h107;have htl:x107.2.1.length=(fg x.vs).length:=by have:=congrArg List.length htold;rwa [WZ,WZ]at this
 refine cX rfl rfl (zc (NV (vs:=x.vs) om) rfl (fun x110=>⟨SB,(gA ?_)⟩));refine yC ?_ ?_<;>intro h115 p115
 ·exfalso
  omega
 refine gG ?_;refine bH [4,14,118,119,120,121,122,123,124,125,126,127,128,129,130,131] [118] (fun us H'=>∃(k:Nat),us=[.int .i64 (k:Int)]/\row (.slice x107.1.a (x107.2.1).length x107.1.c) 57 38 ((x107.2.1).flatMap af.list)::eG x107.2.2.1 x107.2.2.2::row (.slice x110.a (fg x.vs).length x110.c) 57 38 ((fg x.vs).flatMap af.list)::bE q sb p lo bp fu::aF b5 (.cells (gY x).cells 50 (0,0))::aF b3 (.cells x.v.cells 54 (0,0))::cb.H y bp (du.H z sb (XS.H x H))=H'/\k<=x107.2.1.length) (fun us=>match us with| .int _ i::_=>x107.2.1.length-i.toNat|_=>0) ⟨0,rfl,rfl,om⟩ SB ?_;rintro τ2 _ _ ⟨k,rfl,rfl,hk0⟩ _;refine gG ?_;refine yC ?_ ?_<;>intro h119 p119
 ·have hk:k<x107.2.1.length:=om;have hal:=IQ x.vs;have hku:k<(fg x.vs).length:=om;refine gG ?_;refine dw (row (.slice x107.1.a (x107.2.1).length x107.1.c) 57 38 ((x107.2.1).flatMap af.list)::row (.slice x110.a (fg x.vs).length x110.c) 57 38 ((fg x.vs).flatMap af.list)::H) [(0,true),(1,true),(2,true),(3,true),(4,true),(5,true),(6,true),(7,true),(8,false),(9,true)] (fun hns5=>?_);refine zd hns5 rfl (zm (.slice _ _ _) rfl) rfl (zd hns5 rfl (zm (.int .i64 _) rfl) rfl (zd hns5 rfl (bn rfl rfl om om) rfl (zd hns5 rfl (kl (k:=k) rfl hk) rfl (zd hns5 rfl (zm (.slice _ _ _) rfl) rfl (zd hns5 rfl (zm (.int .i64 _) rfl) rfl (zd hns5 rfl (bn rfl rfl om om) rfl (zd hns5 rfl (kl (k:=k) rfl hku) rfl ?_)))))));have rvz:jF w0 (eG x107.2.2.1 x107.2.2.2::row (.slice x110.a (fg x.vs).length x110.c) 57 38 ((fg x.vs).flatMap af.list)::bE q sb p lo bp fu::aF b5 (.cells (gY x).cells 50 (0,0))::aF b3 (.cells x.v.cells 54 (0,0))::cb.H y bp (du.H z sb (XS.H x H))) x107.2.1:=E0 h107;have hzk:=W1 hk;have rbz:=rvz.b _ hzk;have rcz:=rvz.c _ hzk;have rez:=rvz.e _ hzk;have rvu:jF w0 H (fg x.vs):=LZ hG.rv;have huk:=W1 hku;have rbu:=rvu.b _ huk;have rcu:=rvu.c _ huk;have reu:=rvu.e _ huk;have hab:=JZ htold k hk hku;have hsz:ff x107.2.1[k].abs:=by rw[hab];exact uH hG.JE _ huk
  refine cX rfl rfl (zc (JC (v:=x107.2.1[k]) (u:=(fg x.vs)[k]) (by have:=hsz.batch;omega) (by have:=hsz.cert;omega) (fun x hx=>by have:=hsz.each x hx;omega)) rfl (fun x129=>⟨SB,?_⟩));rw[decide_eq_true hab];refine gA ?_;refine ZL ?_;exact acI
 refine gG ?_;refine Za ?_;refine zq (jG rfl rfl om om) rfl ?_;refine abw ?_;refine ze rfl (zc (s5 (q:=q) (sb:=sb) (p:=p) (bp:=bp) (lo:=lo) (fu:=fu) (y:=z) (n:=x.W.slot-1) om om om) rfl (fun x138=>?_));rw[hG.st.MP (n:=x.W.slot-1) (.inl om)];refine gG ?_;refine ze rfl (an (fun b15=>?_));refine aag ?_;refine ze rfl (zc (mR (W:=x.W) (u:=x.u) (vs:=⟨x.va,x.vs.length,x.vc⟩) (sa:=x.sa) (sc:=x.sc) (ls:=x.us) (fun s hs=>by have:=hG.rd s hs;infer_instance) (fun s hs=>(hG.sm s hs).lB) hG.fit om) rfl (fun x144=>?_));refine zq (iU (ft:=3) rfl rfl) rfl (zq (gh rfl rfl om om) rfl ?_);refine abw ?_;refine ze rfl (zc (s5 (q:=q) (sb:=sb) (p:=p) (bp:=bp) (lo:=lo) (fu:=fu) (y:=z) (n:=(dY x.W (x.us.map ah.abs)).slot+1) om om om) rfl (fun x147=>?_));rw[hG.st.MP (n:=(dY x.W (x.us.map ah.abs)).slot+1) (.inr acG)];refine gG ?_;refine ze rfl (an (fun b17=>?_));refine aag ?_;exact zX () [_] results12 ⟨rfl,trivial⟩ rfl SB
end
section
theorem ya{l:List UInt8}(h:(eL l).1=0):∃m:Nat,m<65536/\(eL l).2.mask=(m:Int)/\dC (eL l).2.num m=true:=by
 unfold eL at h ⊢
 split at h
 · cases h
 · rename_i h1
   split at h
   · cases h
   · rename_i h2
     rw[if_neg h1,if_neg h2];simp only[not_or,W6]at h2;exact⟨_,(fB _).1,rfl,h2.2⟩
theorem EF{l:List UInt8}(h:(cR l).1=0):A9 (cR l).2:=by
 have hg:=tX l;have hb:∀i,(l.getD i 0).toNat<256:=fun i=>UInt8.toNat_lt _;unfold cR at h hg ⊢
 split at h
 · cases h
 · rename_i h1
   split at h
   · rename_i h2;exact absurd h h2
   · rename_i h2
     split at h
     · cases h
     · rename_i h3
       rw[if_neg h1,if_neg h2,if_neg h3]at hg ⊢;exact⟨⟨by show(0:Int)<=((l.getD 0 0).toNat:Int);omega,by show((l.getD 0 0).toNat:Int)<256;have:=hb 0;omega⟩,⟨by show(0:Int)<=((l.getD 1 0).toNat:Int);omega,by show((l.getD 1 0).toNat:Int)<256;have:=hb 1;omega⟩,⟨by show(0:Int)<=((l.getD 2 0).toNat:Int);omega,by show((l.getD 2 0).toNat:Int)<256;have:=hb 2;omega⟩,hg⟩
def Bp(cs:Vector ax 16):Prop:=∀(i:Nat)(hi:i<16),cs[i].there=false->cs[i].n=0
theorem Aa:Bp nE:=fun i hi _=>by simp[ax.zero]
theorem xN{l:List UInt8}:∀(n q:Nat)(la:Int)(cs:Vector ax 16),Bp cs->Bp (jP l n q la cs).2.2
 |0,_,_,_,h=>h
 |n+1,q,la,cs,h=>by
   unfold jP
   repeat' split
   · exact h
   · exact h
   · exact h
   · refine xN n _ _ _ (fun i hi=>?_)
     unfold xy
     split
     · rw[Yl]
       split
       · intro h2;cases h2
       · exact h i hi
     · exact h i hi
theorem HX(l:List UInt8):Bp (k9 l).2:=by
 unfold k9
 repeat' split
 all_goals first|exact Aa|exact xN _ _ _ _ Aa
structure Pp(i:Nat)(w:aj):Prop where
 slot:0<=w.slot/\w.slot<65536
 first:0<=w.first/\w.first<65536
 view:0<i->∃m:Nat,m<65536/\w.view.mask=(m:Int)/\dC w.view.num m=true
 fM:1<i->∃m:Nat,m<65536/\w.fM.mask=(m:Int)/\dC w.fM.num m=true
 none:Bp w.cs
 last:∀(j:Nat)(hj:j<6),j+3<i->A9 w.last[j]
theorem E1(l:List UInt8):∀i,(ed l i).e=0->Pp i (ed l i).w
 |0,_=>⟨⟨by show(0:Int)<=((bx l 2).2.1:Int);omega,by show((bx l 2).2.1:Int)<65536;have:=(fB l).1;omega⟩,⟨by show(0:Int)<=((bx (l.drop 2) 2).2.1:Int);omega,by show((bx (l.drop 2) 2).2.1:Int)<65536;have:=(fB (l.drop 2)).1;omega⟩,fun h=>absurd h (Nat.lt_irrefl 0),fun h=>absurd h om,Aa,fun j hj h=>absurd h om⟩
 |i+1,h=>by
   have hs:(ed l i).e=0:=by
     rw[ed]at h;unfold gk at h
     split at h
     · rename_i h1;exact absurd h h1
     · rename_i h1;exact Yr h1
   have ih:=E1 l i hs;rw[ed]at h ⊢;unfold gk at h ⊢;rw[if_neg (fun hn=>hn hs)]at h ⊢
   split at h
   · rename_i h1;exact absurd h h1
   · rename_i h1
     rw[if_neg h1]
     split at h
     · rename_i h2
       rw[if_pos h2];exact⟨ih.slot,ih.first,fun _=>ya h,fun hq=>absurd hq om,ih.none,fun j hj hq=>absurd hq om⟩
     · rename_i h2
       rw[if_neg h2]
       split at h
       · rename_i h3
         rw[if_pos h3];exact⟨ih.slot,ih.first,fun _=>ih.view om,fun _=>ya h,ih.none,fun j hj hq=>absurd hq om⟩
       · rename_i h3
         rw[if_neg h3]
         split at h
         · rename_i h4
           rw[if_pos h4];exact⟨ih.slot,ih.first,fun _=>ih.view om,fun _=>ih.fM om,HX _,fun j hj hq=>absurd hq om⟩
         · rename_i h4
           rw[if_neg h4];refine⟨ih.slot,ih.first,fun _=>ih.view om,fun _=>ih.fM om,ih.none,fun j hj hq=>?_⟩;show A9 (xy (ed l i).w.last (i-3) _)[j];unfold xy
           split
           · rw[Yl]
             split
             · exact EF h
             · exact ih.last j hj om
           · exact ih.last j hj om
theorem EO{l:List UInt8}(h:(cN l).1=0):lL (cN l).2:=by
 have hg:=Ch l;unfold cN at h hg ⊢
 split at h
 · cases h
 · rename_i h1
   split at h
   · rename_i h2;exact absurd h h2
   · rename_i h2
     split at h
     · cases h
     · rename_i h3
       rw[if_neg h1,if_neg h2,if_neg h3]at hg ⊢;have f:=E1 l 9 (Yr h2);exact⟨f.slot,f.first,f.view dc,f.fM dc,hg.cs,f.none,fun i hi=>f.last i hi om⟩
structure oD where
 sb:Nat
 fu:Bool
 t:LS
 s:DS
 y:cb
 z:du
 x:XS
def JB(so:Option (List UInt8))(x:XS):Prop:=
 (so=none/\x.W=gJ 0 ((15:Nat):Int) 6/\x.u.abs=zD)∨(so=some (fS (fj x.W x.u.abs))/\(fj x.W x.u.abs).length<=65536)
structure Ix(d:oD)(k:Nat)(so:Option (List UInt8))(dB:List ly):Prop where
 T:rY d.s d.t so (dB.map wS)
 base:JB so d.x
 aT:eN dB=d.x.ss
 fk:ir (gb (ia dB)) d.x.vs
 put:∀v,.inl v∈dB->(cU v).2=0/\(cU v).1.length<=30000
 fit:∀s,.inr s∈dB->ib s/\(gZ s).length<=40000
 len:dB.length<=40+6*k
structure Inv(w0:World)(H:List SA)(k:Nat)(d:oD):Prop where
 fu:d.fu=false
 ok:d.s.Ok (2000+200*k) 2000000
 log:∃so dB,Ix d k so dB
 cw:d.s.cw=[]
 Pd:cont d.s.e1=cont d.s.e2
 ag:kR w0 H d.z d.y d.x
 right:Dn d.x.W.slot d.x.ss
 nx:d.t.nx<=1+40*k
 gi:d.t.gi<=1000000
 last:(bY d.t.av:Int)<=d.z.w.slot+k
 Kn:(d.t.av.length:Int)<=d.z.w.slot+k
 Hv:∀v∈d.x.vs,(cU v.abs).1.length<=30000
 vk:d.x.vs.length<=k
theorem Ix.mono{d:oD}{k:Nat}{so:Option (List UInt8)}{dB:List ly}(h:Ix d k so dB):Ix d (k+1) so dB:=⟨h.T,h.base,h.aT,h.fk,h.put,h.fit,by have:=h.len;omega⟩
theorem Inv.mono{w0:World}{H:List SA}{k:Nat}{d:oD}(h:Inv w0 H k d):Inv w0 H (k+1) d:=by
 obtain⟨so,dB,hl⟩:=h.log;exact⟨h.fu,h.ok.mono om (W8 _),⟨so,dB,hl.mono⟩,h.cw,h.Pd,h.ag,h.right,by have:=h.nx;omega,h.gi,by have:=h.last;omega,by have:=h.Kn;omega,h.Hv,by have:=h.vk;omega⟩
theorem Inv.zw{w0:World}{H:List SA}{k:Nat}{d:oD}(h:Inv w0 H k d):d.z.w=d.x.cur:=h.ag.st.w
theorem Inv.zs{w0:World}{H:List SA}{k:Nat}{d:oD}(h:Inv w0 H k d):d.z.w.slot=d.x.W.slot+d.x.us.length:=by have:=h.ag.st.ws;rwa [WZ]at this
theorem EU(ys:List iB):∀l:List ly,eN (l++ys.map Sum.inr)=eN l++ys:=by
 induction ys with
 |nil=>intro l;simp
 |cons y ys ih=>
   intro l;have e:l++(y::ys).map Sum.inr=(l++[Sum.inr y])++ys.map Sum.inr:=sm;rw[e,ih,C3,W4];rfl
theorem Ew(ys:List iB):∀l:List ly,ia (l++ys.map Sum.inr)=ia l:=by
 induction ys with
 |nil=>intro l;simp
 |cons y ys ih=>
   intro l;have e:l++(y::ys).map Sum.inr=(l++[Sum.inr y])++ys.map Sum.inr:=sm;rw[e,ih,Cx]
theorem Ia(l:List ly)(ys:List iB):(l++ys.map Sum.inr).map wS=l.map wS++BT ys:=by
 rw[Xi,Yo];rfl
theorem Io{b:Int}{x:iB}(h:dJ b x=true)(hn:db x.n)(hb:0<=b)(hb2:b<=1000000):b+1<=60:=by
 have h1:=(ku h hn hb hb2).1;unfold dJ at h;simp only[Xz,decide_eq_true_eq]at h;have:=h.1.2.1;omega
theorem KB{n:Int}{xs ys:List iB}(h1:Dn n xs)(h2:Dn (n+xs.length) ys):Dn n (xs++ys):=fun i hi=>by
 by_cases h:i<xs.length
 · rw[Yy h];exact h1 i h
 · rw[List.getElem_append_right om]
   have h3:=h2 (i-xs.length) (by rw[WX]at hi;omega);rw[show n+(xs.length:Int)+((i-xs.length:Nat):Int)=n+(i:Int)from by omega]at h3;exact h3
theorem Inv.decide{w0:World}{H:List SA}{k:Nat}{d:oD}(I:Inv w0 H k d){so:Option (List UInt8)}{dB:List ly}(L:Ix d k so dB){ls:List ah}(hrd:∀x∈ls,Rd w0 H x)(hln:∀x∈ls,db x.n)(hl6:ls.length<=6){r:Hn}(h:OX d.s d.t so (dB.map wS) d.z d.x.W d.x.u.abs d.x.ss (ls.map ah.abs) (2000+200*k) 2000000 r){rr:OS}(h2:OY d.x ls rr):r.e=4∨(r.e=rr.f/\r.out=rr.out/\Inv w0 H (k+1) ⟨d.sb,r.fu,r.t,r.s,d.y,r.z,rr.x⟩/\(r.e≠0->rr.x=d.x)):=by
 have hc:=I.zw;obtain⟨h0,⟨e1,e2,e3,e4,e5,e6,e7⟩|e1|⟨e1,e2,e3,e4,e5,e6,e7,e8,e9,ea,eb,ec⟩⟩:=h
 · rw[hc]at e2
   rcases h2 with⟨f1,-,f3,f4⟩|⟨-,f2,-⟩
   · refine .inr ⟨by rw[e1,f1],by rw[e7,f4],?_,fun _=>f3⟩
     have:=I.mono;rw[e3,e4,e5,e6,f3,←I.fu];exact aeq
   · exact absurd f2 e2
 · exact .inl e1
 · rw[hc]at e2 e5
   rcases h2 with⟨-,f2,-⟩|⟨f1,-,f3,f4,f5,f6,f7⟩
   · exact absurd e2 f2
   · refine .inr ⟨by rw[e1,f1],by rw[e5,f7],?_,fun hn=>absurd e1 hn⟩
     have hzs:=I.zs;have hcs:d.x.cur.slot=d.x.W.slot+d.x.us.length:=by rw[←hc];exact hzs
     have hsl:=I.ag.slot;have hWs:=I.ag.fit.slot;have hss:rr.x.ss=d.x.ss++ls.map ah.abs:=by unfold XS.ss;rw[f5,Xi]
     have hr:∀(i:Nat)(hi:i<ls.length),dJ (d.x.cur.slot+i) ls[i].abs=true:=fun i hi=>by
       have:=e2 i acq
       rwa [XP]at this
     have hfit:∀x∈ls,ib x.abs/\(gZ x.abs).length<=40000:=fun x hx=>by
       obtain⟨i,hi,rfl⟩:=XU hx;exact⟨(ku (hr i hi) (hln _ hx) om om).2.1,vo (hr i hi) (hln _ hx) om om⟩
     have h60:d.x.W.slot+d.x.us.length+ls.length<=60:=by
       rcases YH ls.length with h0|h0
       · omega
       · have:=Io (hr (ls.length-1) om) (hln _ (W1 _)) om om
         omega
     have hzw:=e4.ws;rw[WX,WZ,WZ]at hzw;refine⟨e3,h0.mono acG (W8 _),⟨so,dB++(ls.map ah.abs).map Sum.inr,?_⟩,e7,e8,?_,?_,?_,?_,?_,?_,?_,?_⟩
     · refine⟨by rw[Ia];exact e6,?_,?_,?_,fun v hv=>?_,fun s hs=>?_,?_⟩
       · have hb:=L.base
         unfold JB at hb ⊢;rw[f3,f4];exact hb
       · rw[EU,L.aT,hss]
       · rw[Ew,f6];exact L.fk
       · rcases Xc.1 hv with hv|hv
         · exact L.put v hv
         · obtain⟨u,-,hu⟩:=Xd.1 hv;cases hu
       · rcases Xc.1 hs with hs|hs
         · exact L.fit s hs
         · obtain⟨u,hu,he⟩:=Xd.1 hs
           cases he;obtain⟨x,hx,rfl⟩:=Xd.1 hu;exact hfit x hx
       · have:=L.len;rw[WX,WZ,WZ];omega
     · refine⟨by rw[f3,f4,hss];exact e4,by rw[f3];exact I.ag.fit,by rw[f3,f5,WX];omega,fun s hs=>?_,fun s hs=>?_,by rw[f4];exact I.ag.N0,by rw[f4];exact I.ag.N4,I.ag.AH,by rw[f6];exact I.ag.same,by simpa[f6]using I.ag.nW,by rw[f6];exact I.ag.rv,by rw[f6];exact I.ag.xX,by rw[f6];exact I.ag.Jl⟩
       · rw[f5]at hs
         rcases Xc.1 hs with hs|hs
         · exact I.ag.rd s hs
         · exact hrd s hs
       · rw[f5]at hs
         rcases Xc.1 hs with hs|hs
         · exact I.ag.sm s hs
         · exact(hfit s hs).1
     · rw[f3,hss]
       refine KB I.right ?_;rw[WZ,←hcs];exact e2
     · rw[e9,WZ];have:=I.nx;omega
     · show r.t.gi<=1000000;have:=I.gi;omega
     · rw[WZ]at ec;have:=I.last;show(bY r.t.av:Int)<=r.z.w.slot+(k+1:Nat);omega
     · rw[WZ]at eb;have:=I.Kn;show(r.t.av.length:Int)<=r.z.w.slot+(k+1:Nat);omega
     · rw[f6];exact I.Hv
     · rw[f6];have:=I.vk;omega
theorem KR(p:Int×Int):(cU (hU p).abs).1.length<=30000:=by
 have h1:=bA ([]:List UInt8) dc;have h2:=bw 0 dc;have h3:(told (hU p).abs).length<=30000:=by
   show(head (hU p).abs++texts ([]:List (List UInt8))).length<=30000;have h4:texts ([]:List (List UInt8))=[]:=rfl;rw[h4,Xn];show(jH (hU p).abs 3++(hU p).abs.hash.toList++aY ([]:List UInt8)++packed 0).length<=30000;rw[WX,WX,WX,eT,XW];simp only[List.length_nil]at h1;omega
 unfold cU
 repeat' split
 all_goals first|exact Xv _|exact h3
theorem JR{vs:List af}(h:∀v∈vs,(cU v.abs).1.length<=30000):∀v∈fg vs,(cU v.abs).1.length<=30000:=fun v hv=>by
 rcases qV hv with⟨-,h1⟩|⟨h1,-⟩|⟨h1,-⟩
 · rw[h1];exact KR _
 · exact h v h1
 · exact h v h1
theorem Inv.nW{w0:World}{H:List SA}{k:Nat}{d:oD}(I:Inv w0 H k d):qQ d.x.vs:=I.ag.put
theorem Inv.told{w0:World}{H:List SA}{k:Nat}{d:oD}(I:Inv w0 H k d)(hk:k<=30){zs ds:List af}(ha:rB d.y zs ds):zs.length<=32/\(∀v∈zs,ff v.abs/\(cU v.abs).1.length<=30000)/\zs.map af.abs=(fg d.x.vs).map af.abs:=by
 have ht:=Cz I.ag.AH I.ag.same I.nW ha;have hkl:=wP I.ag.AH I.ag.same;have hvk:=I.vk;refine⟨?_,fun v hv=>?_,ht⟩
 · obtain⟨ks,hp,-,hz⟩:=ha.keys
   have h1:=congrArg List.length hz;have h2:=hp.length_eq;simp only[WZ,WX]at h1 h2;have h3:(s7 d.y.k.cO d.y.k.now).length<=1:=by unfold s7;split<;>simp
   have h4:(d.y.acc.map fun q=>q.2.abs).toList.length<=1:=by cases d.y.acc<;>simp
   omega
 · have h1:v.abs∈(fg d.x.vs).map af.abs:=by rw[←ht];exact Xd.2 ⟨v,hv,rfl⟩
   obtain⟨u,hu,he⟩:=Xd.1 h1;rw[←he];exact⟨uH I.ag.JE u hu,JR I.Hv u hu⟩
theorem Bg{zs:List af}(h:∀v∈zs,(cU v.abs).1.length<=30000)(hl:zs.length<=32){n:Nat}(hn:n<=1000000):(bL n (iA zs)).length<=1000000:=by
 have h1:=BN (B:=30001) dc (iA zs) n (by unfold iA;rw[WZ];omega) (fun l hl2=>by
   unfold iA at hl2;obtain⟨v,hv,rfl⟩:=Xd.1 hl2;rw[jl];have:=h v hv;omega)
 have h2:(iA zs).length<=32:=by unfold iA;rw[WZ];exact hl
 have h3:=Nat.mul_le_mul_left (30001+28) h2;omega
theorem Inv.Aq{w0:World}{H:List SA}{k:Nat}{d:oD}(I:Inv w0 H k d)(hk:k<=30):bY d.t.av<=90/\d.t.av.length<=90/\d.t.nx<=1201:=by
 have h1:=I.last;have h2:=I.Kn;have h3:=I.zs;have h4:=I.ag.slot;have h5:=I.nx;exact⟨om,om,om⟩
theorem Inv.Qx{w0:World}{H:List SA}{k:Nat}{d:oD}(I:Inv w0 H k d)(hk:k<=30):Pk d.s d.t d.y (2000+200*k) 2000000:=by
 obtain⟨so,dB,L⟩:=I.log;obtain⟨fs,rc,g⟩:=L.T.log;obtain⟨r1,r2,r3⟩:=I.Aq hk;have hkl:=wP I.ag.AH I.ag.same;have hvk:=I.vk;refine⟨I.ok,om,dc,W8 _,L.T.live,om,om,fun n hn=>⟨EW g.Aq n hn,by have:=(g.Aq n hn).2;omega⟩,g.uR.imp fun h=>Nat.ne_of_lt h,fun n hn=>?_,om,I.ag.AH,keys_in I.ag.same I.nW,om,fun zs ds ha=>?_⟩
 · have h1:=g.file n hn
   have h2:ij (cont d.s.e2) (fW eA n)=cont d.s.e2 (fW eA n):=by unfold ij;exact if_neg (qn n)
   rw[h2]at h1;exact oP h1
 · obtain⟨t1,t2,-⟩:=I.told hk ha
   exact⟨om,t2,Bg (fun v hv=>(t2 v hv).2) t1 om⟩
theorem Inv.PB{w0:World}{H:List SA}{k:Nat}{d:oD}(I:Inv w0 H k d)(hk:k<30){v:af}(rb:dT w0 H (.slice v.batch.a v.batch.l.length v.batch.c) v.batch.l)(rc:gy w0 H (.slice v.cert.a v.cert.ls.length v.cert.c) 1 (v.cert.ls.map BS.val))(re:ju w0 H v.cert.ls)(hlg:mq [v.abs]=false)
   {z:Jn}(h:JU false d.t d.s d.y v.abs (2000+200*k) 2000000 z){rr:XS×Int}(h2:Oc d.x v rr):z.e=4∨(z.e=rr.2/\Inv w0 H (k+1) ⟨d.sb,z.fu,z.t,z.s,z.y,d.z,rr.1⟩/\(z.e≠0->rr.1=d.x)):=by
 obtain⟨so,dB,L⟩:=I.log;obtain⟨r1,r2,r3⟩:=I.Aq om;have hslot:d.y.k.slot=bZ d.x.vs:=I.ag.same.slot;obtain⟨hf,hx⟩:=h2;have hst:∀e:Int,e≠0->nt d.x.vs v=e->z.e=e->z.fu=false->z.t=d.t->z.s=d.s->z.y=d.y->z.e=4∨(z.e=rr.2/\Inv w0 H (k+1) ⟨d.sb,z.fu,z.t,z.s,z.y,d.z,rr.1⟩/\(z.e≠0->rr.1=d.x)):=fun e he hv h1 h3 h4 h5 h6=>by
   have hxx:rr.1=d.x:=by
     rcases hx with⟨-,hx⟩|⟨hx,-⟩
     · exact hx
     · rw[hx,hv]at hf;exact absurd hf.symm he
   refine .inr ⟨by rw[h1,hf,hv],?_,fun _=>hxx⟩;have:=I.mono;rw[h3,h4,h5,h6,hxx,←I.fu];exact aeq
 rcases h with⟨he,h1,h3,h4,h5,⟨h6,-⟩|⟨h6,h7⟩|⟨h6,h7,h8,h9,ha⟩⟩|⟨-,hput,hpl,hnew,⟨he,ha,-,-⟩|⟨s1,ha,hok1,hsy,hfu,hend⟩⟩
 · cases h6
 · exact hst 15 dc (by unfold nt;rw[if_pos h6]) h7 h1 h3 h4 h5
 · refine hst 7 dc ?_ ha h1 h3 h4 h5
   unfold nt fh;have hkd:1<v.kind:=by
     have hp:=(aD v.abs).1 (D5 h6).2.1;have h8':v.kind≠1:=h8;have:1<=v.kind:=hp.1;omega
   rw[if_neg om,if_neg om,if_pos ⟨hkd,by rw[←hslot];exact h9⟩]
 · have:=ha.jm L.T om (by rw[jl];omega) om I.ok.gR
   rcases this with h6|⟨h6,-⟩
   · exact .inl h6
   · exact absurd h6 he
 · have hlv:=ha.jm L.T om (by rw[jl];omega) om I.ok.gR
   rcases hlv with h6|⟨-,q1,q2,q3,q4,q5,q6⟩
   · exact absurd h6 dc
   · obtain⟨w1,w2,w3⟩:=q1.sync hsy
     have htk:fh d.x.vs v=0:=uS hput (by rw[←hslot];exact hnew);have hvf:nt d.x.vs v=0:=by unfold nt;rw[if_neg om,htk]
     obtain⟨-,y1,y2,y3,y4⟩:True/\z.s.down=false/\z.e=(eX d.y.abs v.abs).2/\z.y.Ok/\z.y.abs=(eX d.y.abs v.abs).1:=by
       rcases hend with⟨h6,-⟩|⟨h6,h7,h8,h9⟩
       · rw[w1.live.down]at h6;cases h6
       · exact⟨trivial,h6,h7,h8,h9⟩
     have hts:=pS (v:=v) I.ag.same;rw[htk]at hts;have he0:z.e=0:=by rw[y2];exact hts.1
     obtain⟨x1,x2,x3,x4,x5⟩:rr.2=0/\rr.1.W=d.x.W/\rr.1.u=d.x.u/\rr.1.us=d.x.us/\rr.1.vs=d.x.vs++[v]:=by
       rcases hx with⟨hx,-⟩|hx
       · rw[hf,hvf]at hx;exact absurd rfl hx
       · exact hx
     have hss:rr.1.ss=d.x.ss:=by unfold XS.ss;rw[x4]
     refine .inr ⟨by rw[he0,x1],?_,fun hn=>absurd he0 hn⟩;refine⟨hfu,(hsy.ok hok1).mono om (W8 _),⟨so,dB++[.inl v.abs],?_⟩,w2,w3,?_,by rw[x2,hss];exact I.right,by show z.t.nx<=_;have:=I.nx;omega,by show z.t.gi<=_;omega,by show(bY z.t.av:Int)<=d.z.w.slot+(k+1:Nat);have:=I.last;omega,by show(z.t.av.length:Int)<=d.z.w.slot+(k+1:Nat);have:=I.Kn;omega,fun u hu=>?_,by rw[x5,WX];have:=I.vk;simp;omega⟩
     · refine⟨by rw[Xi];exact w1,?_,by rw[Dg,hss];exact L.aT,?_,fun u hu=>?_,fun u hu=>?_,by rw[WX];have:=L.len;simp;omega⟩
       · have hb:=L.base
         unfold JB at hb ⊢;rw[x2,x3];exact hb
       · rw[CE,sC,x5]
         have:=pS (v:=v) L.fk;rw[htk]at this;exact this.2.1 this.1
       · rcases Xc.1 hu with hu|hu
         · exact L.put u hu
         · rw[Xb]at hu;cases hu;exact⟨hput,hpl⟩
       · rcases Xc.1 hu with hu|hu
         · exact L.fit u hu
         · rw[Xb]at hu;cases hu
     · have hsame:ir z.y.abs (d.x.vs++[v]):=by rw[y4];exact hts.2.1 hts.1
       refine⟨by rw[x2,x3,hss];exact I.ag.st,by rw[x2];exact I.ag.fit,by rw[x2,x4];exact I.ag.slot,by rw[x4];exact I.ag.rd,by rw[x4];exact I.ag.sm,by rw[x3];exact I.ag.N0,by rw[x3];exact I.ag.N4,y3,by rw[x5];exact hsame,?_,?_,fun u hu=>?_,by rw[x5,WX];have:=I.vk;simp;omega⟩
       · have:=qO I.ag.nW htk
         simpa[x5]using this
       · rw[x5]
         refine⟨fun u hu=>?_,fun u hu=>?_,fun u hu=>?_⟩
         · rcases Xc.1 hu with hu|hu
           · exact I.ag.rv.b u hu
           · rw[Xb.1 hu];exact rb
         · rcases Xc.1 hu with hu|hu
           · exact I.ag.rv.c u hu
           · rw[Xb.1 hu];exact rc
         · rcases Xc.1 hu with hu|hu
           · exact I.ag.rv.e u hu
           · rw[Xb.1 hu];exact re
       · rw[x5]at hu
         rcases Xc.1 hu with hu|hu
         · exact I.ag.xX u hu
         · rw[Xb.1 hu];exact hlg
     · rw[x5]at hu
       rcases Xc.1 hu with hu|hu
       · exact I.Hv u hu
       · rw[Xb.1 hu];exact hpl
theorem u9:∀zs:List af,ia (zs.map fun v=>(Sum.inl v.abs:ly))=zs.map af.abs
 |[]=>rfl
 |z::zs=>by
   have h:=u9 zs;unfold ia at h ⊢;rw[Xt,Xt,List.filterMap_cons];simp only;rw[h]
theorem G4(W:aj)(x:iB):(eV x).length<=(fj W x).length:=by unfold fj aY;simp;omega
theorem Inv.saved{w0:World}{H:List SA}{k:Nat}{d:oD}(I:Inv w0 H k d)(hk:k<30){W:aj}{x0:iB}{r:Gv}{xx:XS}(h:I5 d.s d.t d.y W x0 (2000+200*k) 2000000 r)(hW:lL W)(hs:d.z.w.slot<=W.slot/\W.slot<=60)(hf:ib x0)(hxW:xx.W=W)(hxu:xx.u.abs=x0)(hxr:Rd w0 H xx.u)(hxs:xx.us=[])(hxv:xx.vs=d.x.vs):r.e=4∨(r.e=0/\Inv w0 H (k+1) ⟨r.sb,r.fu,r.t,r.s,d.y,r.z,xx⟩):=by
 obtain⟨r1,r2,r3⟩:=I.Aq om;obtain⟨h0,h1|⟨h1,h2,h3,h4,h5,h6,h7,zs,ds,ha,h8,h9,hb,hc⟩⟩:=h
 · exact .inl h1
 · obtain⟨so,dB,L⟩:=I.log
   obtain⟨fs,rc,g⟩:=L.T.log;obtain⟨t1,t2,t3⟩:=I.told om ha;obtain⟨a0,ha0,hch⟩:=g.chain;have hnx1:1<=d.t.nx:=by have:=ve hch;omega
   have hss:xx.ss=[]:=by unfold XS.ss;rw[hxs];rfl
   have hnl:=qI d.t.av;have hlast:bY r.t.av=fq d.t.av:=by rw[h9];rfl
   have hput:∀v∈zs,(cU v.abs).2=0:=fun v hv=>by
     have h10:v.abs∈(fg d.x.vs).map af.abs:=by rw[←t3];exact Xd.2 ⟨v,hv,rfl⟩
     obtain⟨u,hu,he⟩:=Xd.1 h10;rw[←he];exact Fb I.nW u hu
   have hvr:=u9 zs;have hsr:eN (zs.map fun v=>(Sum.inl v.abs:ly))=[]:=by
     unfold eN;rw[List.filterMap_map,List.filterMap_eq_nil_iff];intro v _;rfl
   have hrb:(zs.map fun v=>(Sum.inl v.abs:ly)).map wS=iA zs:=by rw[Yo];rfl
   have hcon:∀key,key≠jJ->ij (cont r.s.e2) key=if key=fW eA (fq d.t.av)then some (bL d.t.nx (iA zs))else none:=fun key hq=>by
     rw[show ij (cont r.s.e2) key=cont r.s.e2 key from by unfold ij;exact if_neg hq,h8];unfold l9;by_cases q1:key=fW eA (fq d.t.av)
     · rw[if_pos q1,if_pos q1]
     · rw[if_neg q1,if_neg q1,XE]
       by_cases q2:MO eA d.t.av key=true
       · rw[if_pos q2]
       · rw[if_neg q2]
         unfold lr;rw[if_neg hq];by_cases q3:key=qj
         · rw[if_pos q3]
         · rw[if_neg q3]
           refine Yr fun hn=>?_;obtain⟨n,hn1,hn2⟩:=g.keys key (by unfold ij;rw[if_neg hq];exact hn);exact q2 (jE.2 ⟨n,hn1,hn2⟩)
   have hst:cont r.s.e2 jJ=some (fS (fj W x0)):=by
     rw[h8];unfold l9 lr;rw[if_neg (fun h=>qn _ h.symm),if_neg (fun h=>by obtain⟨n,-,he⟩:=jE.1 h;exact qn n he.symm),if_pos rfl]
   refine .inr ⟨h1,h2,h0.mono om (W8 _),⟨some (fS (fj W x0)),zs.map fun v=>Sum.inl v.abs,?_⟩,h6,h7,?_,?_,?_,?_,?_,?_,?_,?_⟩
   · refine⟨⟨h5,hst,fun _=>d.t.nx,fun _=>iA zs,?_⟩,.inr ⟨by rw[hxW,hxu],by rw[hxW,hxu];exact h4⟩,by rw[hsr,hss],?_,fun v hv=>?_,fun s hs2=>?_,by rw[WZ];omega⟩
     · rw[h9,hrb]
       refine⟨fun key hkey=>?_,fun n hn=>?_,List.pairwise_singleton _ _,fun n hn=>?_,⟨d.t.nx,hnx1,rfl,by rw[hb];unfold iA;rw[WZ];rfl⟩,sm⟩
       · by_cases hq:key=jJ
         · exact absurd (by unfold ij;exact if_pos hq) hkey
         · rw[hcon key hq]at hkey
           by_cases q1:key=fW eA (fq d.t.av)
           · exact⟨_,Xb.2 rfl,q1⟩
           · rw[if_neg q1]at hkey;exact absurd rfl hkey
       · rw[Xb.1 hn,hcon _ (qn _),if_pos rfl]
         simp
       · rw[Xb.1 hn];exact⟨BQ _,W8 _⟩
     · rw[hvr,t3,hxv]
       exact HJ I.nW (Ee (fg d.x.vs) (fun i hi=>Kg I.nW i hi))
     · obtain⟨u,hu,he⟩:=Xd.1 hv
       cases he;exact⟨hput u hu,(t2 u hu).2⟩
     · obtain⟨u,hu,he⟩:=Xd.1 hs2
       cases he
   · refine⟨by rw[hxW,hxu,hss];exact h3,by rw[hxW];exact hW,by rw[hxW,hxs];simpa using hs.2,by rw[hxs];exact(fun s hs=>by cases hs),by rw[hxs];exact(fun s hs=>by cases hs),hxr,by rw[hxu];exact hf,I.ag.AH,by rw[hxv];exact I.ag.same,by simpa[hxv]using I.ag.nW,by rw[hxv];exact I.ag.rv,by rw[hxv];exact I.ag.xX,by rw[hxv];exact I.ag.Jl⟩
   · rw[hss];exact fun i hi=>absurd hi (Ya i)
   · show r.t.nx<=_;have:=I.nx;omega
   · show r.t.gi<=_;rw[hc];exact Bg (fun v hv=>(t2 v hv).2) t1 om
   · show(bY r.t.av:Int)<=r.z.w.slot+(k+1:Nat)
     have h10:=h3.ws;have:=I.last;rw[hlast,h10];simp;omega
   · show(r.t.av.length:Int)<=r.z.w.slot+(k+1:Nat)
     have h10:=h3.ws;have:=hW.slot;rw[h9,h10];simp;omega
   · rw[hxv];exact I.Hv
   · rw[hxv];have:=I.vk;omega
theorem Inv.save{w0:World}{H:List SA}{k:Nat}{d:oD}(I:Inv w0 H k d)(hk:k<30){r:Gv}{xx:XS}(h:I5 d.s d.t d.y d.z.w d.z.last.abs (2000+200*k) 2000000 r)(h2:OO d.x xx):r.e=4∨(r.e=0/\Inv w0 H (k+1) ⟨r.sb,r.fu,r.t,r.s,d.y,r.z,xx⟩):=by
 obtain⟨l1,l2,l3⟩:=I.ag.last;obtain⟨x1,x2,x3,x4⟩:=h2;have hsl:=I.ag.slot;have hfit:=(l8 (W:=d.x.W) d.x.ss I.ag.fit acG).1;have hzs:=I.zs;rw[I.zw,l3]at h;exact I.saved hk h hfit ⟨by rw[I.zw];exact Int.le_refl _,by rw[←I.zw];omega⟩ l2 x1 (by rw[x2]) (by rw[x2];exact l1) x3 x4
theorem Inv.install{w0:World}{H:List SA}{k:Nat}{d:oD}(I:Inv w0 H k d)(hk:k<30){W:aj}{x:ah}(hrx:Rd w0 H x)(hxn:db x.n){r:Gv}{rr:XS×Int}(h:Oe d.sb d.s d.t d.y d.z W x.abs (2000+200*k) 2000000 r)(h2:OQ d.x W x rr):r.e=4∨(r.e=rr.2/\Inv w0 H (k+1) ⟨r.sb,r.fu,r.t,r.s,d.y,r.z,rr.1⟩/\(r.e≠0->rr.1=d.x)):=by
 have hc:=I.zw;have hzs:=I.zs;have hsl:=I.ag.slot;have hWs:=I.ag.fit.slot;have hno:∀n e,Dc n W x.abs e->¬okW n W x.abs:=fun n e h hok=>by
   rcases h with⟨h,-⟩|⟨-,h,-⟩
   · exact hok.1 h
   · exact h hok
 rcases h with⟨h1,h3⟩|⟨h1,h3⟩
 · rw[hc]at h1
   rcases h2 with⟨f1,f2⟩|⟨f1,-⟩
   · refine .inr ⟨?_,?_,fun _=>f2⟩
     · rcases h1 with⟨a1,a2⟩|⟨a1,a2,a3⟩<;>rcases f1 with⟨b1,b2⟩|⟨b1,b2,b3⟩
       · rw[a2,b2]
       · exact absurd a1 b1
       · exact absurd b1 a1
       · rw[a3,b3]
     · have:=I.mono
       rw[h3,f2,←I.fu];exact aeq
   · exact absurd f1 (hno _ _ h1)
 · rw[hc]at h1
   rcases h2 with⟨f1,-⟩|⟨-,f2,f3,f4,f5,f6⟩
   · exact absurd h1 (hno _ _ f1)
   · obtain⟨o1,o2,o3,o4,o5⟩:=h1
     have hfit:lL W:=by have:=EO o3;rwa [o4]at this
     have hz:d.x.cur.slot=d.x.W.slot+d.x.us.length:=by rw[←hc];exact hzs
     have hf:=(ku o5 hxn om om).2.1;rcases I.saved hk h3 hfit ⟨by rw[hc];omega,o2⟩ hf f3 (by rw[f4]) (by rw[f4];exact hrx) f5 f6 with h4|⟨h4,h5⟩
     · exact .inl h4
     · exact .inr ⟨by rw[h4,f2],h5,fun hn=>absurd h4 hn⟩
end
end Go.Proofs.YtmbfimckmfnnjaaGreatDoor
