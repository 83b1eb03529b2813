/- Steps of the proof of a law. -/
import Derived.Test.YtmbfimckmfnnjaaGreatDoorQ47
set_option maxRecDepth 100000
set_option maxHeartbeats 1000000
set_option linter.unusedSimpArgs false
set_option linter.unusedVariables false
namespace Go.Proofs.YtmbfimckmfnnjaaGreatDoor
open Go.RowKit Go.Sx Go.Proofs.Tryz
section
structure IS where
 d:oD
 e:Int
 ok:Bool
abbrev oD.H(d:oD)(q p lp bp:Nat)(H:List SA):List SA:=bE q d.sb p (some ⟨lp,0,none⟩) bp d.fu::bm lp p eA d.t::bP d.t::cb.H d.y bp (DS.H p d.s (du.H d.z d.sb (XS.H d.x H)))
theorem yi.of{x:ah}(h1:x.batch.l.length<=3000)(h2:x.parts.ls.length<=20)(h3:∀z∈x.parts.ls,z.l.length<=140737488351232):yi x:=⟨om,om,h3⟩
theorem C9:∀(xs:List iB)(W:aj),(oF W xs).length<=4*xs.length
 |[],W=>W8 0
 |x::xs,W=>by
   have h1:=pG W x.batch;have h2:=C9 xs (jt W (bN x.batch).2).1;unfold oF;rw[WX,Xq];omega
section
variable {w0:World} {G H:List SA}
theorem E4{T:Type}[Deep T](hs:∀w,St w0 H w->St w0 G w){v:T}(h:Rd w0 G v):Rd w0 H v:=⟨h.ok.mono hs⟩
theorem ME(hs:∀w,St w0 H w->St w0 G w){vs:List af}(h:jF w0 G vs):jF w0 H vs:=
 ⟨fun v hv=>⟨fun w hw=>(h.b v hv).rd w (hs w hw)⟩,fun v hv=>⟨fun w hw=>(h.c v hv).rd w (hs w hw)⟩,fun v hv=>⟨fun x hx w hw=>(h.e v hv).rd x hx w (hs w hw)⟩⟩
theorem kR.up(hs:∀w,St w0 H w->St w0 G w){z:du}{y:cb}{x:XS}(h:kR w0 G z y x):kR w0 H z y x:=
 ⟨h.st,h.fit,h.slot,fun s hm=>E4 hs (h.rd s hm),h.sm,E4 hs h.N0,h.N4,h.AH,h.same,h.nW,ME hs h.rv,h.xX,h.Jl⟩
theorem Inv.up(hs:∀w,St w0 H w->St w0 G w){k:Nat}{d:oD}(h:Inv w0 G k d):Inv w0 H k d:=
 ⟨h.fu,h.ok,h.log,h.cw,h.Pd,h.ag.up hs,h.right,h.nx,h.gi,h.last,h.Kn,h.Hv,h.vk⟩
theorem DW.up(hs:∀w,St w0 H w->St w0 G w){q:gT}(h:DW w0 G q):DW w0 H q:=
 ⟨⟨fun w hw=>h.rc.rd w (hs w hw)⟩,fun x hx=>E4 hs (h.rd x hx),E4 hs h.rx,⟨fun w hw=>h.rb.rd w (hs w hw)⟩,⟨fun w hw=>h.Cd.rd w (hs w hw)⟩,⟨fun x hx w hw=>h.re.rd x hx w (hs w hw)⟩,h.gw,h.num,h.xn,h.ln,h.xz,h.lz⟩
end
theorem NX{vs:List af}{v:af}:nt vs v≠4:=by
 unfold nt fh
 repeat' split
 all_goals decide
theorem LW{x:iB}(h:ib x):(eV x).length<=1200000:=by
 obtain⟨m,-,-,e⟩:=nI h;have h1:=iu x.batch h.batch;have h2:=jA 65536 x.parts h.each dc;have h3:=Xp (10+65536) h.parts;have h4:=bw x.parts.length (by have:=h.parts;omega);have h5:=h.batch;rw[e];simp only[ox,WX,aO,XW];omega
attribute [local irreducible] fH fY dS cU eX bN jt wB eV gZ dJ dY oF cN fg gY fh nt cv bL fW bY fq l9 lr fS fj ij
theorem Nf{w0:World}{H:List SA}{G:List SA}(hup:∀w,St w0 H w->St w0 G w){q p lp bp dsb:Nat}{dt:LS}{ds:DS}{dy:cb}{dz:du}{dx:XS}{k:Nat}(I0:Inv w0 G k ⟨dsb,false,dt,ds,dy,dz,dx⟩)(hk:k<30){ac:gT}(hD0:DW w0 G ac)(hS:NR ac)(hkd:0<=ac.kind/\ac.kind<=3):CT prog w0 (oD.H (⟨dsb,false,dt,ds,dy,dz,dx⟩:oD) q p lp bp H) 11 [.pointer (some ⟨q,0,none⟩),.agg dx.v.cells,.agg ac.cells] (α:=IS) (fun r=> .tuple #[.int .i64 r.e,.agg r.d.x.v.cells,.bool r.ok]) (fun r=>pu (r.e=4∨(r.ok=true/\Inv w0 G (k+1) r.d/\(r.e≠0->r.d.x=dx)))::oD.H r.d q p lp bp H):=by
 have I:=I0.up hup;have hD:=hD0.up hup;obtain⟨r1,r2,r3⟩:=I.Aq om;have hnx:=I.nx;have hsz:=I.gi;have hzs:=I.zs;have hsl:=I.ag.slot;have hWs:=I.ag.fit.slot;have hvk:=I.vk;have hl6:=hS.len;simp only at r1 r2 r3 hnx hsz hzs hsl hWs hvk;have rdr:=hD.rc;have rdx:=hD.rx;have rvb:=hD.rb;have rvc:=hD.Cd;have rve:=hD.re;refine al func11 rfl ntmps11 rfl (gG ?_);refine ze rfl (aZ rfl (fun b4=>?_));refine ze rfl (aZ rfl (fun b5=>gG ?_));refine ze rfl (an (fun b7=>gG ?_));refine ze rfl (an (fun b9=>?_));refine aa1 ?_;refine zq (za (.int .i64 _) rfl) rfl (zq (za (.int .i64 _) rfl) rfl (zz (zx (zS (zR (zq (za (.slice _ _ _) rfl) rfl (zq (za (.slice _ _ _) rfl) rfl ?_)))))))
 refine zz (zx (kT [10,11,12,13,15,16,17,18,19,20,21,22,23,24,25,26,27,28,29,30,31,32,33,34,35,36,37,38,39,40,41,42,43,44,45,46,47,48,49,50,51,52,53,54,55,56,57,58,59,60,61,62,63,64,65,66,67,68,69] [10,11,12,13] (fun us H'=>∃(sb2:Nat)(fu2:Bool)(t2:LS)(s2:DS)(y2:cb)(z2:du)(xx2:XS)(e f:Int)(oa ob:Option Addr)(oc od n1 n2:Nat)(V1 V2:List Value)(L1 L2:List ar),us=[.int .i64 e,.int .i64 f,.slice oa n1 oc,.slice ob n2 od]/\(row (.slice oa n1 oc) 41 5 V1::row (.slice ob n2 od) 41 5 V2::aF b9 (.cells xx2.v.cells 54 (0,0))::aF b7 (.cells aR.zero.cells 54 (0,0))::bE q sb2 p (some ⟨lp,0,none⟩) bp fu2::bm lp p eA t2::bP t2::cb.H y2 bp (DS.H p s2 (du.H z2 sb2 (XS.H xx2 H))))=H'/\n1=L1.length/\V1=L1.flatMap ar.list/\n2=L2.length/\V2=L2.flatMap ar.list/\(L2.length<=24/\f≠4/\(e=4∨(e=f/\L1=L2/\Inv w0 G (k+1) (⟨sb2,fu2,t2,s2,y2,z2,xx2⟩:oD)/\(e≠0->xx2=dx))))) ?_ ?_))
 ·refine zS (zR ?_);refine ez (fun w hw=>(cJ.st inferInstance w ((((SC) w hw:St w0 (aF b9 (.cells dx.v.cells 54 (0,0))::aF b7 (.cells aR.zero.cells 54 (0,0))::aF b5 (.cells ac.cells 62 (0,0))::aF b4 (.cells dx.v.cells 54 (0,0))::bE q dsb p (some ⟨lp,0,none⟩) bp false::bm lp p eA dt::bP dt::cb.H dy bp (DS.H p ds (du.H dz dsb (XS.H dx H)))) w).cT 41 5).cT 41 5):St w0 (row (.slice none 0 0) 41 5 []::row (.slice none 0 0) 41 5 []::aF b9 (.cells dx.v.cells 54 (0,0))::aF b7 (.cells aR.zero.cells 54 (0,0))::aF b5 (.cells ac.cells 62 (0,0))::aF b4 (.cells dx.v.cells 54 (0,0))::bE q dsb p (some ⟨lp,0,none⟩) bp false::bm lp p eA dt::bP dt::cb.H dy bp (DS.H p ds (du.H dz dsb (XS.H dx H)))) w)) ?_;refine gG ?_;refine yC ?_ ?_<;>intro h17 p17
  ·obtain⟨so,dB,L⟩:=I.log;have hwide:∀x∈ac.ls,yi x:=fun x hx=>yi.of (hS.lb x hx).1 (hS.lb x hx).2 (hD.lz x hx);refine gG ?_;refine aaO ?_;refine ze rfl (zc (Gn (ls:=ac.ls) (q:=q) (sb:=dsb) (p:=p) (lp:=lp) (bp:=bp) (t:=dt) (s:=ds) (y:=dy) I.ok om dc dc L.T om om om om (z:=dz) I.ag.st om (by simp only[WZ];omega) (fun y hy=>by have:=hD.rd y hy;infer_instance) hwide hD.ln om) rfl (fun x23=>?_));refine aV (fun h23=>?_);refine gG ?_;refine ez (fun w hw=>((SC) w hw:St w0 (XS.H dx (row (.slice x23.o.a (x23.out).length x23.o.c) 41 5 ((x23.out).flatMap ar.list)::row (.slice none 0 0) 41 5 []::row (.slice none 0 0) 41 5 []::aF b9 (.cells dx.v.cells 54 (0,0))::aF b7 (.cells aR.zero.cells 54 (0,0))::aF b5 (.cells ac.cells 62 (0,0))::aF b4 (.cells dx.v.cells 54 (0,0))::bE q dsb p (some ⟨lp,0,none⟩) bp x23.fu::bm lp p eA x23.t::bP x23.t::cb.H dy bp (DS.H p x23.s (du.H x23.z dsb H)))) w)) ?_;refine ze rfl (zc (F3 (x:=dx) (fun y hy=>by have:=I.ag.rd y hy;infer_instance) (fun y hy=>(I.ag.sm y hy).lB) I.ag.fit om (ls:=ac.ls) (fun y hy=>by have:=hD.rd y hy;infer_instance) hwide om) rfl (fun x30=>?_));refine aV (fun h30=>?_);have hl24:x30.out.length<=24:=by
    rcases h30 with⟨-,-,-,h⟩|⟨-,-,-,-,-,-,h⟩
    · rw[h];exact Xv _
    · rw[h];have:=C9 (ac.ls.map ah.abs) dx.cur;rw[WZ]at this;omega
   have hf4:x30.f≠4:=by
    rcases h30 with⟨h,-⟩|⟨h,-⟩<;>omega
   have hfact:=I0.decide L hD0.rd hD0.ln hS.len h23 h30;refine gG ?_;refine aag ?_;refine dU _ zA aar (fun w hw=>((SC) w hw:St w0 _ w))
  refine gG ?_;refine yC ?_ ?_<;>intro h34 p34
  ·have hvl:mq [ac.v.abs]=false:=hS.v;have hvs:ff ac.v.abs:=qv hvl _ (Xb.2 rfl);refine gG ?_;refine ez (fun w hw=>((SC) w hw:St w0 (SH q dsb p lp bp false dt ds dy (row (.slice none 0 0) 41 5 []::row (.slice none 0 0) 41 5 []::aF b9 (.cells dx.v.cells 54 (0,0))::aF b7 (.cells aR.zero.cells 54 (0,0))::aF b5 (.cells ac.cells 62 (0,0))::aF b4 (.cells dx.v.cells 54 (0,0))::du.H dz dsb (XS.H dx H))) w)) ?_;refine ze rfl (zc (LU (q:=q) (sb:=dsb) (p:=p) (lp:=lp) (bp:=bp) (fu:=false) (t:=dt) (s:=ds) (y:=dy) I.ok om dc dc om om om om I.ag.AH (v:=ac.v) hvs) rfl (fun x39=>?_));refine aV (fun h39=>?_);refine gG ?_;refine ez (fun w hw=>((SC) w hw:St w0 (XS.H dx (SH q dsb p lp bp x39.fu x39.t x39.s x39.y (row (.slice none 0 0) 41 5 []::row (.slice none 0 0) 41 5 []::aF b9 (.cells dx.v.cells 54 (0,0))::aF b7 (.cells aR.zero.cells 54 (0,0))::aF b5 (.cells ac.cells 62 (0,0))::aF b4 (.cells dx.v.cells 54 (0,0))::du.H dz dsb H))) w)) ?_;refine ze rfl (zc (K9 (x:=dx) om (v:=ac.v) hvs) rfl (fun x44=>?_));refine aV (fun h44=>?_);have hf4:x44.2≠4:=by rw[h44.1];exact NX
   have hfact:=I0.PB hk hD0.rb hD0.Cd hD0.re hvl h39 h44;refine gG ?_;refine aag ?_;refine dU _ zA aar (fun w hw=>((SC) w hw:St w0 _ w))
  refine gG ?_;refine yC ?_ ?_<;>intro h47 p47
  ·obtain⟨l1,l2,l3⟩:=I.ag.last;have hlf:ib dz.last.abs:=by rw[l3];exact l2
   have hlz:(eV dz.last.abs).length<=1200000:=by rw[l3];exact LW l2
   refine gG ?_;refine aaO ?_;refine ze rfl (zc (Mg (q:=q) (sb:=dsb) (p:=p) (lp:=lp) (bp:=bp) (t:=dt) (s:=ds) (y:=dy) (I.Qx om) (z:=dz) I.ag.st.ok hlf hlz) rfl (fun x50=>?_));refine aV (fun h50=>?_);refine gG ?_;refine ez (fun w hw=>((SC) w hw:St w0 (XS.H dx (bE q x50.sb p (some ⟨lp,0,none⟩) bp x50.fu::bm lp p eA x50.t::bP x50.t::cb.H dy bp (DS.H p x50.s (du.H x50.z x50.sb (row (.slice none 0 0) 41 5 []::row (.slice none 0 0) 41 5 []::aF b9 (.cells dx.v.cells 54 (0,0))::aF b7 (.cells aR.zero.cells 54 (0,0))::aF b5 (.cells ac.cells 62 (0,0))::aF b4 (.cells dx.v.cells 54 (0,0))::H))))) w)) ?_;refine ze rfl (zc (LF (x:=dx) (fun y hy=>by have:=I.ag.rd y hy;infer_instance) (fun y hy=>(I.ag.sm y hy).lB) I.ag.fit om) rfl (fun x52=>?_));refine aV (fun h52=>?_);have hf4:(0:Int)≠4:=dc;have hfact:=I0.save hk h50 h52;refine aag ?_;refine dU _ zA aar (fun w hw=>((SC) w hw:St w0 _ w))
  refine gG ?_;refine yC ?_ ?_<;>intro h53 p53
  ·refine gG ?_;refine zq (zf 40 rfl rfl) rfl ?_;refine gG ?_;refine zq (zf 108 rfl rfl) rfl ?_;refine gG ?_;refine aaO ?_;refine ze rfl (zc (Ev (q:=q) (sb:=dsb) (p:=p) (lp:=lp) (bp:=bp) (t:=dt) (s:=ds) (y:=dy) (I.Qx om) (z:=dz) I.ag.st.ok om (W:=ac.w) hD.gw hD.num (n:=ac.x.n) hD.xn (h:=ac.x.hash) (b:=ac.x.batch) (pp:=ac.x.parts) (by have:=hS.xb;omega) (by have:=hS.xp;omega) hD.xz) rfl (fun x60=>?_));refine aV (fun h60=>?_);refine gG ?_;refine zq (zf 40 rfl rfl) rfl ?_;refine gG ?_;refine zq (zf 108 rfl rfl) rfl ?_;refine gG ?_;refine ez (fun w hw=>((SC) w hw:St w0 (XS.H dx (bE q x60.sb p (some ⟨lp,0,none⟩) bp x60.fu::bm lp p eA x60.t::bP x60.t::cb.H dy bp (DS.H p x60.s (du.H x60.z x60.sb (row (.slice none 0 0) 41 5 []::row (.slice none 0 0) 41 5 []::aF b9 (.cells dx.v.cells 54 (0,0))::aF b7 (.cells aR.zero.cells 54 (0,0))::aF b5 (.cells ac.cells 62 (0,0))::aF b4 (.cells dx.v.cells 54 (0,0))::H))))) w)) ?_;refine ze rfl (zc (Dp (x:=dx) (fun y hy=>by have:=I.ag.rd y hy;infer_instance) (fun y hy=>(I.ag.sm y hy).lB) I.ag.fit om (W:=ac.w) hD.gw (n:=ac.x.n) (h:=ac.x.hash) (b:=ac.x.batch) (pp:=ac.x.parts) (by have:=hS.xb;omega) (by have:=hS.xp;omega) hD.xz) rfl (fun x67=>?_));refine aV (fun h67=>?_);have hf4:x67.2≠4:=by
    rcases h67 with⟨⟨-,h⟩|⟨-,-,h⟩,-⟩|⟨-,h,-⟩<;>omega
   have hfact:=I0.install hk hD0.rx hD0.xn h60 h67;refine gG ?_;refine aag ?_;refine dU _ zA aar (fun w hw=>((SC) w hw:St w0 _ w))
  omega
 rintro τc0 _ _ ⟨sb2,fu2,t2,s2,y2,z2,xx2,e,f,oa,ob,oc,od,n1,n2,V1,V2,L1,L2,rfl,rfl,rfl,rfl,rfl,rfl,hl24,hf4,hfact⟩ _;refine gG ?_;refine yS 72 ?_ ?_<;>intro h72 p72<;>refine gG ?_
 ·refine yS 75 ?_ ?_<;>intro h75 p75<;>refine gG ?_
  ·refine Zc ?_;refine dw (aF b9 (.cells xx2.v.cells 54 (0,0))::H) [(0,true),(1,true),(2,true),(3,true),(4,true),(5,true),(6,false),(7,true)] (fun hns1=>?_);refine gA ?_;refine aaE ?_;exact abC
  refine yC ?_ ?_<;>intro h79 p79<;>refine gG ?_
  ·refine dw (aF b9 (.cells xx2.v.cells 54 (0,0))::H) [(0,true),(1,true),(2,true),(3,true),(4,true),(5,true),(6,false),(7,true)] (fun hns2=>?_);refine gA ?_;refine aaE ?_;exact abC
  refine dw (aF b9 (.cells xx2.v.cells 54 (0,0))::row (.slice oa (L1).length oc) 41 5 ((L1).flatMap ar.list)::row (.slice ob (L2).length od) 41 5 ((L2).flatMap ar.list)::H) [(0,true),(1,true),(2,true),(3,true),(4,true),(5,true),(6,true),(7,true),(8,false),(9,true),(10,true),(11,false),(12,true)] (fun hns3=>?_);refine gA ?_;refine yD 90 ?_ ?_<;>intro h90 p90
  ·refine gA ?_;refine lF rfl rfl rfl h90 rfl (zc (qx (ls:=L1) (ms:=L2) agd) rfl (fun x93=>⟨SB,?_⟩));refine gA ?_;refine abd ?_;refine agE ?_;exact aas
  refine gA ?_;refine abd ?_;refine agE ?_;exact aas
 refine Zi ?_;refine dw (aF b9 (.cells xx2.v.cells 54 (0,0))::row (.slice oa (L1).length oc) 41 5 ((L1).flatMap ar.list)::row (.slice ob (L2).length od) 41 5 ((L2).flatMap ar.list)::H) [(0,true),(1,true),(2,true),(3,true),(4,true),(5,true),(6,true),(7,true),(8,false),(9,true),(10,true),(11,false),(12,true)] (fun hns4=>?_);refine gA ?_;refine yD 90 ?_ ?_<;>intro h90 p90
 ·refine gA ?_;refine lF rfl rfl rfl h90 rfl (zc (qx (ls:=L1) (ms:=L2) agd) rfl (fun x93=>⟨SB,?_⟩));refine gA ?_;refine abd ?_;refine zd hns4 rfl (za (.bool _) rfl) rfl (gz (zx (zQ ?_)));exact aas
 refine gA ?_;refine aaE ?_;exact aas
end
section
@[reducible] def N6:XS:=⟨gJ 0 ((15:Nat):Int) 6,ah.zero,none,0,[],none,0,[]⟩
variable {w0:World} {H:List SA} {M:Nat}
theorem TS:Rd w0 H ah.zero:=by
 refine⟨⟨fun y hy w hw=>?_,fun y hy w hw=>?_,fun y hy z hz w hw=>?_,fun y hy=>by cases hy⟩⟩
 · obtain rfl:y=ah.zero.batch:=Xb.1 hy
   exact ag3
 · obtain rfl:y=ah.zero.parts:=Xb.1 hy
   exact ag3
 · obtain rfl:y=ah.zero.parts:=Xb.1 hy
   cases hz
theorem Pl:ib zD:=⟨dc,dc,dc,dc,(fun c hc=>by cases hc)⟩
theorem OD(r1 r2:Nat)(n:Int):tT (oE r1 r2 n) (gJ 0 ((15:Nat):Int) 6) zD none:= .inl ⟨rfl,rfl,rfl,rfl⟩
theorem Ot(r1 r2:Nat)(n:Int):Live (oE r1 r2 n):=⟨rfl,rfl⟩
theorem lC.live{s s':DS}{N kp:Nat}{dP cut:Int}(h:lC s N M kp dP cut s'):Live s':=by
 obtain⟨e1,c1,q,fp,bs,hc,rfl⟩:=h;exact⟨rfl,rfl⟩
theorem OF(r1 r2:Nat)(n:Int){t:LS}(h1:t.av=[])(h2:t.nx=1):rY (oE r1 r2 n) t none []:=by
 refine⟨⟨rfl,rfl⟩,rfl,fun _=>0,fun _=>[],?_⟩;have e:ij (cont (oE r1 r2 n).e2)=fun _=>none:=by funext key;unfold ij;split<;>rfl
 rw[h1,h2,e];exact kC.start
theorem Oi(r1 r2:Nat)(n:Int):∃cf,uf (oE r1 r2 n) [] cf []:=
 (OF r1 r2 n (t:=oz none 0 [] jV) rfl rfl).MQ ((Am r1 r2 n).mono (W8 _) dc) (by show bY []<100;decide) dc (fun l h=>by cases h) dc dc
theorem Inv.start{r1 r2:Nat}{n:Int}{cf:Nat->List UInt8}{r:N3}(h:NQ (oE r1 r2 n) (gJ 0 ((15:Nat):Int) 6) zD [] cf [] 0 2000000 r):Inv w0 H 0 ⟨r.sb,false,r.t,r.s,r.y,r.z,N6⟩:=by
 obtain⟨h1,h2,h3,h4,h5,w,hw,h6,h7⟩:=h;obtain⟨ga,gc,ht⟩:∃ga gc,r.t=oz ga gc [] (eF cf [] jV):=by
   rcases hw with⟨-,⟨-,-,k,hk,-⟩|⟨-,-,⟨-,-,⟨ga,gc,e⟩,-⟩|⟨k,hk,-⟩⟩⟩
   · exact absurd hk (Ya k)
   · exact⟨ga,gc,by rw[←h7,e]⟩
   · exact absurd hk (Ya k)
 have hsg:r.t.av=[]:=by rw[ht]
 have hnx:r.t.nx=1:=by rw[ht];rfl
 have hsz:r.t.gi=0:=by rw[ht];rfl
 have hvs:gb (ia [])=fG.zero:=rfl;have hzw:=h5.ws;have hl0:bY r.t.av=0:=by rw[hsg];decide
 refine⟨rfl,h1.mono om (W8 _),⟨none,[],⟨by rw[h2];exact OF r1 r2 n hsg hnx,.inl ⟨rfl,rfl,rfl⟩,rfl,by rw[hvs];exact ir.start,(fun v h=>by cases h),(fun s h=>by cases h),dc⟩⟩,by rw[h2];rfl,by rw[h2];rfl,?_,fun i hi=>absurd hi (Ya i),?_,?_,?_,?_,(fun v h=>by cases h),W8 0⟩
 · refine⟨h5,s6,(by show(0:Int)+((0:Nat):Int)<=60;decide),(fun s h=>by cases h),(fun s h=>by cases h),?_,Pl,h3,by rw[h4,hvs];exact ir.start,fun i hi=>absurd hi (Ya i),⟨fun v h=>acX,fun v h=>acX,fun v h=>acX⟩,(fun v h=>by cases h),Xv _⟩
   exact TS
 · show r.t.nx<=1+40*0;omega
 · show r.t.gi<=1000000;omega
 · show(bY r.t.av:Int)<=r.z.w.slot+((0:Nat):Int)
   rw[hl0,hzw];decide
 · show(r.t.av.length:Int)<=r.z.w.slot+((0:Nat):Int)
   rw[hsg,hzw];decide
theorem Inv.Uk{k:Nat}{d:oD}(I:Inv w0 H k d)(hk:k<=30):d.s.Ok 1000 2000000:=by
 obtain⟨so,dB,L⟩:=I.log;obtain⟨fs,rc,g⟩:=L.T.log;obtain⟨r1,r2,r3⟩:=I.Aq hk;have main:∀(es:FM)(c:Nat),eQ es c->cont es=cont d.s.e2->es.length<=1000:=fun es c hg hc=>by
   have h1:(es.map (·.k)).length<=(jJ::d.t.av.map (fW eA)).length:=nX _ _ hg.keys (fun nm hm=>by
     obtain⟨e,he,rfl⟩:=Xd.1 hm;by_cases hq:e.k=jJ
     · rw[hq];exact XF ..
     · obtain⟨n,hn,hne⟩:=g.keys e.k (by
         unfold ij;rw[if_neg hq,←hc];unfold cont;intro h0;exact sJ he (by simpa using h0))
       exact Xa _ (Xd.2 ⟨n,hn,hne.symm⟩))
   rw[WZ,Xq,WZ]at h1;omega
 have h:=I.ok;exact⟨h.qk,h.gR,h.Av,h.oH,h.xd,h.zero,h.len,h.short,main _ _ h.qk I.Pd,main _ _ h.gR rfl,by rw[I.cw];exact Xv _,h.oB,h.nk,h.pg⟩
structure Found(w0:World)(H:List SA)(s:DS)(t:LS)(x:XS)(dB:List ly)(bo:Option (List UInt8))(cf:Nat->List UInt8):Prop where
 base:tT s x.W x.u.abs bo
 op:uf s t.av cf (dB.map wS)
 put:∀v,.inl v∈dB->(cU v).2=0
 fit:∀y,.inr y∈dB->ib y
 right:Dn x.W.slot (eN dB)
 len:dB.length<=900
 aT:eN dB=x.ss
 fk:ir (gb (ia dB)) x.vs
 live:Live s
theorem Inv.found{k:Nat}{d:oD}(I:Inv w0 H k d)(hk:k<=30){N M2:Nat}{s':DS}(hc:lC d.s N M 0 (-1) 0 s')(hok:s'.Ok M2 2000000):∃dB bo cf,Found w0 H s' d.t d.x dB bo cf:=by
 obtain⟨so,dB,L⟩:=I.log;have hce:cont s'.e2=cont d.s.e2:=by rw[hc.N2,I.cw,E9,I.Pd]
 have hT:rY s' d.t so (dB.map wS):=⟨hc.live,by rw[hce];exact L.T.state,by rw[hce];exact L.T.log⟩;obtain⟨r1,r2,r3⟩:=I.Aq hk;have hlen:=L.len;obtain⟨cf,P⟩:=hT.MQ hok om acG (fun l hl=>by
   obtain⟨r,hr,rfl⟩:=Xd.1 hl;cases r with
   |inl v=>show(fY v).length<=65536;rw[jl];have:=(L.put v hr).2;omega
   |inr y=>show(gZ y).length<=65536;have:=(L.fit y hr).2;omega) om om
 obtain⟨bo,hB⟩:∃bo,tT s' d.x.W d.x.u.abs bo:=by
   rcases L.base with⟨b1,b2,b3⟩|⟨b1,b2⟩
   · refine⟨none,.inl ⟨rfl,?_,b2,b3⟩⟩
     rw[kE,hT.state,b1];rfl
   · have h1:cont s'.e2 jJ=some (fS (fj d.x.W d.x.u.abs)):=by rw[hT.state,b1]
     refine⟨_,.inr ⟨rfl,oP h1,by rw[rK,h1];rfl,b2,I.ag.fit,I.ag.N4,Yk (G4 _ _) b2⟩⟩
 exact⟨dB,bo,cf,hB,P,fun v hv=>(L.put v hv).1,fun y hy=>(L.fit y hy).1,by rw[L.aT];exact I.right,om,L.aT,L.fk,hc.live⟩
theorem Found.agree{s:DS}{t:LS}{x:XS}{dB:List ly}{bo:Option (List UInt8)}{cf:Nat->List UInt8}(h:Found w0 H s t x dB bo cf){z:du}{y:cb}(ag:kR w0 H z y x){K:Nat}{r:N3}(hr:NQ s x.W x.u.abs dB cf t.av M K r):kR w0 H r.z r.y x:=by
 obtain⟨h1,h2,h3,h4,h5,-⟩:=hr;exact⟨by rw[←h.aT];exact h5,ag.fit,ag.slot,ag.rd,ag.sm,ag.N0,ag.N4,h3,by rw[h4];exact h.fk,ag.nW,ag.rv,ag.xX,ag.Jl⟩
attribute [local irreducible] fH fY dS cU eX bN jt wB eV gZ dJ dY oF cN fg gY fh nt cv bL fW bY fq l9 lr fS fj ij oE
theorem kR.tail{a:SA}{z:du}{y:cb}{x:XS}(h:kR w0 H z y x):kR w0 (a::H) z y x:=h.up (fun _ hw=>hw.tail)
theorem Ie{w:World}(h:St w0 H w):St w0 (oG none 0 []::C7 none 0 []::H) w:=(h.cT 57 38).cT 50 35
theorem C5(hlay:zH w0){a:Option Addr}{l:List gT}{c:Nat}[hr:gy w0 H (.slice a l.length c) 147 (l.flatMap gT.list)](hA:∀q∈l,DW w0 H q):CT prog w0 (H) 3 [.slice a l.length c] (α:=Unit) (fun _=> .bool true) (fun _=>H):=by
 refine al func3 rfl ntmps3 rfl (gG ?_);refine ze rfl (zc (G1) rfl (fun x12=>gG ?_));refine Zb ?_;refine ze rfl (zc (Ig hA) rfl (fun x15=>?_));refine aV (fun hlg15=>?_);refine gG ?_;refine yC ?_ ?_<;>intro h15 p15
 ·refine gG ?_;exact ada
 have hls:=hlg15 h15;refine gG ?_;refine ze rfl (zc (Ks (n:=262144)) rfl (fun x16=>gG ?_));refine ze rfl (zc (AJ) rfl (fun x19=>?_));have hok0:(oE x16.2.1 x16.2.2 262144).Ok 0 2000000:=(Am _ _ _).mono dc dc;obtain⟨cf0,hP0⟩:=Oi x16.2.1 x16.2.2 262144;refine ze rfl (zc (Dh (p:=x16.1) (s:=oE x16.2.1 x16.2.2 262144) hok0 dc dc dc (M:=0) (K:=2000000) (Ot _ _ _) hlay (W:=gJ 0 ((15:Nat):Int) 6) (x0:=zD) (bo:=none) (OD _ _ _) (dB:=[]) hP0 (fun v h=>by cases h) (fun x h=>by cases h) (fun i hi=>absurd hi (Ya i)) dc) rfl (fun x20=>?_));refine aV (fun h20=>?_);have hI0:Inv w0 H 0 ⟨x20.sb,false,x20.t,x20.s,x20.y,x20.z,N6⟩:=Inv.start h20;refine gG ?_;refine Zb ?_;refine ze rfl (zc (AJ) rfl (fun x25=>?_));refine ze rfl (zc (Mo) rfl (fun x26=>?_));refine ze rfl (an (fun b6=>?_));refine aag ?_
 refine bH [2,8,9,10,11,29,30,31,32,33,34,35,36,37,38,39,40,41,42,43,44,45,46,47,48,49,50,51,52,53,54,55,56,57,58,59,60] [29] (fun us H'=>∃(k:Nat)(d:oD),us=[.int .i64 (k:Int)]/\aF b6 (.cells d.x.v.cells 54 (0,0))::oD.H d x20.q x16.1 x20.lp x20.bp (H)=H'/\k<=l.length/\(Inv w0 H k d)) (fun us=>match us with| .int _ i::_=>l.length-i.toNat|_=>0) ⟨0,⟨x20.sb,false,x20.t,x20.s,x20.y,x20.z,N6⟩,rfl,rfl,om,hI0⟩ (fun w hw=>(cJ.st (cJ.mk ael) w (Ie ((SC) w hw:St w0 (aF b6 (.cells N6.v.cells 54 (0,0))::bE x20.q x20.sb x16.1 (some ⟨x20.lp,0,none⟩) x20.bp false::bm x20.lp x16.1 eA x20.t::bP x20.t::cb.H x20.y x20.bp (DS.H x16.1 x20.s (du.H x20.z x20.sb (H)))) w)):St w0 (aF b6 (.cells N6.v.cells 54 (0,0))::bE x20.q x20.sb x16.1 (some ⟨x20.lp,0,none⟩) x20.bp false::bm x20.lp x16.1 eA x20.t::bP x20.t::cb.H x20.y x20.bp (DS.H x16.1 x20.s (du.H x20.z x20.sb (XS.H N6 H)))) w)) ?_;rintro τ0 _ _ ⟨k,d,rfl,rfl,hk0,hI⟩ _;refine gG ?_;refine yC ?_ ?_<;>intro h30 p30
 ·have hk:k<l.length:=om;refine gG ?_;refine zq (bn rfl rfl om om) rfl (zq (bI (ek 147 l[k].list rfl (de _ 147 gT.ae l k hk) (gT.ae _) dc) (show Value.agg l[k].list.toArray=Value.agg l[k].cells from rfl)) rfl ?_);refine ze rfl (an (fun b8=>?_));refine aag ?_;refine yS 36 ?_ ?_<;>intro h36 p36<;>refine gG ?_
  ·refine aI rfl rfl ?_;refine gA ?_;exact abB
  refine yC ?_ ?_<;>intro h40 p40
  ·refine gA ?_;exact abB
  refine gG ?_;have hd:=hA _ (W1 hk);have hs:=hls.2 _ (W1 hk);have hI3:Inv w0 H k ⟨d.sb,false,d.t,d.s,d.y,d.z,d.x⟩:=by have h:=hI;rw[←h.fu];exact h
  have hfu:=hI.fu;refine ez (fun w hw=>((SC) w hw:St w0 (bE x20.q d.sb x16.1 (some ⟨x20.lp,0,none⟩) x20.bp d.fu::bm x20.lp x16.1 eA d.t::bP d.t::cb.H d.y x20.bp (DS.H x16.1 d.s (du.H d.z d.sb (XS.H d.x (aF b8 (.cells l[k].cells 62 (0,0))::aF b6 (.cells d.x.v.cells 54 (0,0))::H))))) w)) ?_;rw[hfu];refine ze rfl (zc (Nf (G:=H) (fun w hw=>cJ.st (cJ.mk ael) w hw) (q:=x20.q) (p:=x16.1) (lp:=x20.lp) (bp:=x20.bp) (dsb:=d.sb) (dt:=d.t) (ds:=d.s) (dy:=d.y) (dz:=d.z) (dx:=d.x) (k:=k) hI3 om (ac:=l[k]) hd hs ⟨om,om⟩) rfl (fun x45=>?_));refine aV (fun h45=>?_);refine gG ?_;refine ze rfl (an (fun b10=>gG ?_));refine aag ?_;refine yC ?_ ?_<;>intro h50 p50
  ·refine gG ?_;refine Zd ?_;exact ada
  obtain⟨hok45,hI2,hx45⟩:x45.ok=true/\Inv w0 H (k+1) x45.d/\(x45.e≠0->x45.d.x=d.x):=by
   rcases h45 with h|h
   · exact absurd h p50
   · exact h
  refine gG ?_;refine yC ?_ ?_<;>intro h52 p52
  ·rw[hok45]at h52;cases h52
  refine gG ?_;refine yC ?_ ?_<;>intro h54 p54
  ·refine gG ?_;refine aag ?_;have hag:=hI2.ag;refine abI ?_;refine ze rfl (zc (uN (q:=x20.q) (sb:=x45.d.sb) (p:=x16.1) (bp:=x20.bp) (lo:=some ⟨x20.lp,0,none⟩) (fu:=x45.d.fu) (z:=x45.d.z) (y:=x45.d.y) (x:=x45.d.x) aef) rfl (fun x58=>?_));refine gG ?_;refine ZL ?_;exact abB
  rw[←hx45 p54];refine gG ?_;have hag:=hI2.ag;refine abI ?_;refine ze rfl (zc (uN (q:=x20.q) (sb:=x45.d.sb) (p:=x16.1) (bp:=x20.bp) (lo:=some ⟨x20.lp,0,none⟩) (fu:=x45.d.fu) (z:=x45.d.z) (y:=x45.d.y) (x:=x45.d.x) aef) rfl (fun x58=>?_));refine gG ?_;refine ZL ?_;exact abB
 obtain rfl:k=l.length:=om;refine gG ?_;refine Za ?_;refine aaD ?_;have hokD:=hI.Uk om;refine ez (fun w hw=>((SC) w hw:St w0 (DS.H x16.1 d.s (aF b6 (.cells d.x.v.cells 54 (0,0))::XS.H d.x H)) w)) ?_;refine ze rfl (zc (Jf (p:=x16.1) (s:=d.s) (N:=1000) (M:=2000000) hokD om om (kp:=0) (dP:= -1) (cut:=0) dc) rfl (fun x63=>?_));refine aV (fun h63=>?_);have hpd:=hI.cw;have hok63:x63.Ok 10000 2000000:=(h63.Vr.ok hokD).mono (by rw[hpd];simp) (by rw[hpd];simp);obtain⟨dB,bo,cf,hF⟩:=hI.found om h63 hok63;refine gG ?_;refine ze rfl (zc (AJ) rfl (fun x66=>?_));refine ze rfl (zc (Dh (p:=x16.1) (s:=x63) (M:=10000) (K:=2000000) hok63 dc dc dc hF.live hlay hF.base hF.op hF.put hF.fit hF.right hF.len) rfl (fun x67=>?_));refine aV (fun h67=>?_);refine zq (zm (.tuple _) rfl) rfl (zq (eo rfl) rfl (zq (eo rfl) rfl (zq (za (.pointer _) rfl) rfl (zq (za (.int .i64 _) rfl) rfl (zz (zx (zS ?_)))))));refine zR (zq (zm (.int .i64 _) rfl) rfl (zq (ph rfl rfl) rfl (zq (zm (.bool _) rfl) rfl (zt rfl rfl rfl (zq (zm (.pointer _) rfl) rfl (zt rfl rfl rfl (zq (zn rfl rfl) rfl ?_)))))));have hag:=hF.agree hI.ag h67;refine ez (fun w hw=>((SC) w hw:St w0 (bE x67.q x67.sb x16.1 (some ⟨x67.lp,0,none⟩) x67.bp false::cb.H x67.y x67.bp (du.H x67.z x67.sb (XS.H d.x (bm x67.lp x16.1 eA x67.t::bP x67.t::DS.H x16.1 x67.s (aF b6 (.cells d.x.v.cells 54 (0,0))::H))))) w)) ?_;refine gG ?_
 refine ze rfl (zc (uN (q:=x67.q) (sb:=x67.sb) (p:=x16.1) (bp:=x67.bp) (lo:=some ⟨x67.lp,0,none⟩) (fu:=false) (z:=x67.z) (y:=x67.y) (x:=d.x) aef) rfl (fun x75=>?_));refine gG ?_;exact ada
end
end Go.Proofs.YtmbfimckmfnnjaaGreatDoor
