/- Steps of the proof of a law. -/
import Derived.Test.YtmbfimckmfnnjaaGreatDoorQ42
import Derived.Test.YtmbfimckmfnnjaaGreatDoorQ43
set_option maxRecDepth 100000
set_option maxHeartbeats 1000000
set_option linter.unusedSimpArgs false
set_option linter.unusedVariables false
namespace Go.Proofs.YtmbfimckmfnnjaaGreatDoor
open Go.RowKit Go.Sx Go.Proofs.Tryz
section
attribute [local irreducible] fH dS bN jt wB
def Fj(x0:iB)(xs:List iB):iB:=xs.getLast?.getD x0
variable {W:aj} {z:du} {u:ah} {da:Option Addr} {dc:Nat} {fp:List Nat} {w0:World} {H:List SA}
theorem DP(x0 x:iB)(xs:List iB):Fj x0 (xs++[x])=x:=by unfold Fj;rw[List.getLast?_append];rfl
theorem HP(W:aj):dY W []=W:=rfl
theorem xW(W:aj)(xs:List iB)(x:iB):dY W (xs++[x])=(jt (dY W xs) (bN x.batch).2).1:=by unfold dY;rw[X0];rfl
theorem Kb(W:aj)(xs ys:List iB):dY W (xs++ys)=dY (dY W xs) ys:=by unfold dY;rw[X0]
def tC(W:aj)(xs:List iB):List (Vector UInt8 32):=(List.range (xs.length+1)).map fun i=>fH (wB (dY W (xs.take i)))
theorem DU(W:aj)(xs:List iB)(x:iB):tC W (xs++[x])=tC W xs++[fH (wB (dY W (xs++[x])))]:=by
 unfold tC;rw[WX,show xs.length+[x].length+1=(xs.length+1)+1 from rfl,Yu,Xi];have e:((List.range (xs.length+1)).map fun i=>fH (wB (dY W ((xs++[x]).take i))))=(List.range (xs.length+1)).map fun i=>fH (wB (dY W (xs.take i))):=YD fun i hi=>by
   have:=YK.1 hi;rw[X4 om]
 rw[e];simp only[Xt,X6];rw[W7 sm]
theorem mS(W:aj)(xs:List iB):(tC W xs).length=xs.length+1:=by unfold tC;simp
structure du.Is(z:du)(W:aj)(x0:iB)(xs:List iB):Prop where
 ok:z.Ok
 w:z.w=dY W xs
 last:z.last.abs=Fj x0 xs
 aT:z.aT.map ah.abs=xs
 ds:z.ds=tC W xs
 saved:z.saved=W.slot
theorem du.Is.step{z':du}{x0 x:iB}{xs:List iB}(h:z.Is W x0 xs)(hs:Im z x z')(ho:z'.Ok):z'.Is W x0 (xs++[x]):=by
 obtain⟨h1,h2,h3,h4,h5⟩:=hs;have hw:z'.w=dY W (xs++[x]):=by rw[h1,xW,h.w]
 exact⟨ho,hw,by rw[h2,DP],by rw[h3,h.aT],by rw[h4,h.ds,DU,hw],by rw[h5,h.saved]⟩
def du.new(W:aj)(u:ah)(da:Option Addr)(dc:Nat)(fp:List Nat):du:=⟨W,u,none,0,[],da,dc,[fH (wB W)],W.slot,fp,[u]⟩
theorem du.Er(hg:ja W)(hn:db W.view.num)(hs:j0 u):(du.new W u da dc fp).Is W u.abs []:=
 ⟨⟨hg,hn,Xb.2 rfl,(fun x hx=>by cases hx),fun x hx=>by rw[Xb.1 hx];exact hs⟩,rfl,rfl,rfl,rfl,rfl⟩
structure Pk(s:DS)(t:LS)(y:cb)(M K:Nat):Prop where
 ok:s.Ok M K
 hM:M<=800000
 hK:K<=1000000000
 rT:2000000<=K
 live:Live s
 len:t.av.length<=1000
 last:bY t.av<98
 av:∀n∈t.av,n<fq t.av/\n<100
 nodup:t.av.Nodup
 ex:∀n∈t.av,eZ s.e2 (fW eA n)=true
 nx:t.nx<=1000000
 AH:y.Ok
 keys:∀e∈y.es,e.k∈j8
 es:y.es.length<=1000
 told:∀zs ds,rB y zs ds->zs.length<=1000/\(∀v∈zs,ff v.abs/\(cU v.abs).1.length<=30000)/\(bL t.nx (iA zs)).length<=1000000
theorem du.intro{w:World}{nb:Nat}(h:St w0 (aF nb (.cells (aM.mk W u ⟨none,0,0⟩ ⟨da,1,dc⟩ W.slot).cells 87 (0,0))::row (.slice da 1 dc) 46 32 (aX (fH (wB W)))::dX fp (Deep.leads u)::H) w):St w0 (du.H (du.new W u da dc fp) nb H) w:=by
 have h1:=h.cT 50 35;have h2:St w0 (aF nb (.cells (aM.mk W u ⟨none,0,0⟩ ⟨da,1,dc⟩ W.slot).cells 87 (0,0))::row (.slice none 0 0) 50 35 []::row (.slice da 1 dc) 46 32 (aX (fH (wB W)))::dX fp (Deep.leads u)::H) w:=cJ.st inferInstance w h1;have e:dD [u]=Deep.leads u:=by simp[dD,iy.app,iy.nil]
 have e2:[fH (wB W)].flatMap aX=aX (fH (wB W)):=sm;show St w0 (aF nb (.cells (aM.mk W u ⟨none,0,0⟩ ⟨da,1,dc⟩ W.slot).cells 87 (0,0))::row (.slice none 0 0) 50 35 []::row (.slice da 1 dc) 46 32 ([fH (wB W)].flatMap aX)::dX fp (dD [u])::H) w;rw[e,e2];exact h2
theorem ib.small{x:ah}(h:ib x.abs):x.batch.l.length<=65536/\x.parts.ls.length<=16/\∀z∈x.parts.ls,z.l.length<=65536:=by
 have h2:(x.parts.ls.map BS.l).length<=16:=h.parts;rw[WZ]at h2;exact⟨h.batch,h2,fun z hz=>h.each z.l (Xd.2 ⟨z,hz,rfl⟩)⟩
theorem ib.lB{x:ah}(h:ib x.abs):j0 x:=⟨by have:=h.small.1;omega,by have:=h.small.2.1;omega,fun z hz=>by have:=h.small.2.2 z hz;omega⟩
structure Gv where
 sb:Nat
 fu:Bool
 t:LS
 s:DS
 e:Int
 z:du
def I5(s:DS)(t:LS)(y:cb)(W:aj)(x:iB)(M K:Nat)(r:Gv):Prop:=
 r.s.Ok (M+3+t.av.length) K/\(r.e=4∨(r.e=0/\r.fu=false/\r.z.Is W x []/\O5 s t y (fj W x) r.s r.t))
attribute [local irreducible] cv bL fW bY fq fY iA cU eX eV gZ l9 lr fS fj dJ dY du.new cN
theorem Bn{w:World}{q sb p lp bp:Nat}{t:LS}{s:DS}{y:cb}{M K:Nat}{x:Nj}(hg:ja W)(hn:db W.view.num)(hu:j0 u)(hx:Jp sb s t y (fj W u.abs) M K x)(h:St w0 (bE q x.sb p (some ⟨lp,0,none⟩) bp x.fu::bm lp p eA x.t::bP x.t::cb.H y bp (DS.H p x.s (aF x.nb (.cells (aM.mk W u ⟨none,0,0⟩ ⟨da,1,dc⟩ (W).slot).cells 87 (0,0))::row (.slice da 1 dc) 46 32 (aX (fH (wB W)))::dX fp (Deep.leads u)::du.H z sb H))) w):∃r:Gv,St w0 (pu (I5 s t y W u.abs M K r/\r.e=x.e)::bE q r.sb p (some ⟨lp,0,none⟩) bp r.fu::bm lp p eA r.t::bP r.t::cb.H y bp (DS.H p r.s (du.H r.z r.sb H))) w:=by
 obtain⟨nb,sb2,fu,t2,s2,e⟩:=x;obtain⟨h1,⟨h2,h3⟩|⟨h2,h3,h4,h5⟩⟩:=hx
 · simp only at h1 h2 h3 h
   subst h3;exact⟨⟨sb2,fu,t2,s2,e,z⟩,(cJ.st inferInstance w h:St w0 (bE q sb2 p (some ⟨lp,0,none⟩) bp fu::bm lp p eA t2::bP t2::cb.H y bp (DS.H p s2 (du.H z sb2 H))) w).aC ⟨⟨h1,.inl h2⟩,rfl⟩⟩
 · simp only at h1 h2 h3 h4 h5 h
   subst h3;have h6:St w0 (aF sb2 (.cells (aM.mk W u ⟨none,0,0⟩ ⟨da,1,dc⟩ (W).slot).cells 87 (0,0))::row (.slice da 1 dc) 46 32 (aX (fH (wB W)))::dX fp (Deep.leads u)::bE q sb2 p (some ⟨lp,0,none⟩) bp fu::bm lp p eA t2::bP t2::cb.H y bp (DS.H p s2 H)) w:=cJ.st inferInstance w h;have h7:=du.intro h6;exact⟨⟨sb2,fu,t2,s2,e,du.new W u da dc fp⟩,(cJ.st inferInstance w h7:St w0 (bE q sb2 p (some ⟨lp,0,none⟩) bp fu::bm lp p eA t2::bP t2::cb.H y bp (DS.H p s2 (du.H (du.new W u da dc fp) sb2 H))) w).aC ⟨⟨h1,.inr ⟨h2,h4,du.Er hg hn hu,h5⟩⟩,rfl⟩⟩
theorem Mg{q sb p lp bp:Nat}{t:LS}{s:DS}{y:cb}{M K:Nat}(P:Pk s t y M K)(hzo:z.Ok)(hf:ib z.last.abs)(hsz:(eV z.last.abs).length<=1200000):CT prog w0 (bE q sb p (some ⟨lp,0,none⟩) bp false::bm lp p eA t::bP t::cb.H y bp (DS.H p s (du.H z sb H))) 33 [.pointer (some ⟨q,0,none⟩)] (α:=Gv) (fun r=> .int .i64 r.e) (fun r=>pu (I5 s t y z.w z.last.abs M K r)::bE q r.sb p (some ⟨lp,0,none⟩) bp r.fu::bm lp p eA r.t::bP r.t::cb.H y bp (DS.H p r.s (du.H r.z r.sb H))):=by
 refine al func33 rfl ntmps33 rfl (gG ?_);refine Zn ?_;refine Zb ?_;refine yC ?_ ?_<;>intro h6 p6
 ·
  cases h6
 refine zk (mv (zx (kT [2,11,12,13,14,15,16,17,18,19,20,21,22,23,24,25,26,27] [2] (fun us H'=>∃(x:Nj)(u:ah)(da:Option Addr)(dc:Nat)(fp:List Nat),us=[.int .i64 x.e]/\(bE q x.sb p (some ⟨lp,0,none⟩) bp x.fu::bm lp p eA x.t::bP x.t::cb.H y bp (DS.H p x.s (aF x.nb (.cells (aM.mk z.w u ⟨none,0,0⟩ ⟨da,1,dc⟩ (z.w).slot).cells 87 (0,0))::row (.slice da 1 dc) 46 32 (aX (fH (wB z.w)))::dX fp (Deep.leads u)::du.H z sb H)))=H'/\Jp sb s t y (fj z.w u.abs) M K x/\u.abs=z.last.abs) ?_ ?_)))
 ·refine jC (aF sb (.cells z.v.cells 87 (0,0))::H) kr SB (bz (i:=0) kr rfl kr kr (zm (.pointer _) rfl) rfl (bz (i:=1) kr rfl kr kr (zm (.pointer _) rfl) rfl (bz (i:=2) kr rfl kr kr (aN rfl) rfl (bz (i:=3) kr rfl kr kr (zf 0 rfl rfl) rfl (bz (i:=8) kr rfl kr kr (zm (.pointer _) rfl) rfl (bz (i:=9) kr rfl kr kr (aN rfl) rfl (bz (i:=10) kr rfl kr kr (zf 0 rfl rfl) rfl ?_)))))));refine nn (i:=4) (j:=11) kr ?_ ?_
  ·refine aaG ?_;refine adN ?_;refine ab4 ?_;refine aaG ?_;refine adE ?_;refine cd (i:=15) kr ?_;have rdl:Rd w0 (dX z.fp (dD z.all)::H) z.last:=IZ hzo.last;refine cq rfl rfl (zc (rj hzo.ic (n:=z.last.n) (h:=z.last.hash) (b:=z.last.batch) (p:=z.last.parts) (by have:=hf.small.1;omega) (by have:=hf.small.2.1;omega) (fun x hx=>by have:=hf.small.2.2 x hx;omega)) rfl (fun x26=>⟨SB,?_⟩));refine gH (fun h26=>?_);refine cd (i:=16) kr ?_;have hsm:=ib.small (x:=x26.1.1) (by rw[h26];exact hf);refine acm ?_;refine cq rfl rfl (zc (Ah (q:=q) (sb:=sb) (p:=p) (lp:=lp) (bp:=bp) (t:=t) (s:=s) (y:=y) P.ok P.hM P.hK P.rT P.live P.len P.last P.av P.nodup P.ex P.nx P.AH P.keys P.es P.told hzo.ic (n:=x26.1.1.n) (h:=x26.1.1.hash) (b:=x26.1.1.batch) (pp:=x26.1.1.parts) hsm.1 hsm.2.1 hsm.2.2 aeC) rfl (fun x27=>⟨SB,?_⟩));refine gH (fun h27=>?_);rw[show ah.abs (ah.mk x26.1.1.n x26.1.1.hash x26.1.1.batch x26.1.1.parts)=x26.1.1.abs from rfl]at h27;refine agv ?_;refine eH kr ?_;refine dU _ zA (⟨x27,x26.1.1,x26.2.a,x26.2.c,x26.1.2,rfl,rfl,h27,h26⟩) (SB)
  refine aaG ?_;refine adE ?_;refine acZ ?_;refine aaG ?_;refine adN ?_;refine cd (i:=15) kr ?_;have rdl:Rd w0 (dX z.fp (dD z.all)::H) z.last:=IZ hzo.last;refine cq rfl rfl (zc (rj hzo.ic (n:=z.last.n) (h:=z.last.hash) (b:=z.last.batch) (p:=z.last.parts) (by have:=hf.small.1;omega) (by have:=hf.small.2.1;omega) (fun x hx=>by have:=hf.small.2.2 x hx;omega)) rfl (fun x26=>⟨SB,?_⟩));refine gH (fun h26=>?_);refine cd (i:=16) kr ?_;have hsm:=ib.small (x:=x26.1.1) (by rw[h26];exact hf);refine acm ?_;refine cq rfl rfl (zc (Ah (q:=q) (sb:=sb) (p:=p) (lp:=lp) (bp:=bp) (t:=t) (s:=s) (y:=y) P.ok P.hM P.hK P.rT P.live P.len P.last P.av P.nodup P.ex P.nx P.AH P.keys P.es P.told hzo.ic (n:=x26.1.1.n) (h:=x26.1.1.hash) (b:=x26.1.1.batch) (pp:=x26.1.1.parts) hsm.1 hsm.2.1 hsm.2.2 aeC) rfl (fun x27=>⟨SB,?_⟩));refine gH (fun h27=>?_);rw[show ah.abs (ah.mk x26.1.1.n x26.1.1.hash x26.1.1.batch x26.1.1.parts)=x26.1.1.abs from rfl]at h27;refine agv ?_;refine eH kr ?_;refine dU _ zA (⟨x27,x26.1.1,x26.2.a,x26.2.c,x26.1.2,rfl,rfl,h27,h26⟩) (SB)
 rintro τc0 _ _ ⟨x,u,da,dc,fp,rfl,rfl,hx,hu⟩ _;refine gG ?_;refine sI (fun w hw=>Bn hzo.ic hzo.num (ib.lB (by rw[hu];exact hf)) hx hw) (fun r=>?_);refine Ic (fun hr=>?_);rw[hu]at hr;exact zX r [_] results33 ⟨rfl,trivial⟩ (by rw[hr.2];rfl) (fun w hw=>(SB w hw:St w0 (bE q r.sb p (some ⟨lp,0,none⟩) bp r.fu::bm lp p eA r.t::bP r.t::cb.H y bp (DS.H p r.s (du.H r.z r.sb H))) w).aC hr.1)
end
section
def yi(x:ah):Prop:=x.batch.l.length<=4294960000/\x.parts.ls.length<=1000/\∀z∈x.parts.ls,z.l.length<=140737488351232
def okW(n:Int)(W:aj)(x:iB):Prop:=¬W.slot<=n/\W.slot<=60/\(cN (wB W)).1=0/\(cN (wB W)).2=W/\dJ (W.slot-1) x=true
def Dc(n:Int)(W:aj)(x:iB)(e:Int):Prop:=(W.slot<=n/\e=7)∨(¬W.slot<=n/\¬okW n W x/\e=15)
theorem Mh{l:List (List UInt8)}{c:List UInt8}(h:c∈l):c.length<=nq l:=by
 induction l with
 |nil=>cases h
 |cons x l ih=>
   simp only[nq];rcases Xg.1 h with rfl|h
   · omega
   · have:=ih h;omega
theorem yA:∀(l:List (List UInt8)),(∀c∈l,c.length<=65536)->(texts l).length<=nq l+10*l.length
 |[],_=>by simp[texts,nq]
 |c::l,h=>by
   have h1:=yA l (fun x hx=>h x (Xa _ hx));have h2:=iu c (h c (XF ..));have e:texts (c::l)=aY c++texts l:=by simp[texts,aY]
   rw[e,WX];simp only[nq,Xq];omega
theorem ku{b:Int}{x:iB}(h:dJ b x=true)(hn:db x.n)(hb:0<=b)(hb2:b<=1000000):x.n=b+1/\ib x/\(eV x).length<=39000:=by
 unfold dJ at h;simp only[Xz,decide_eq_true_eq]at h;obtain⟨⟨h1,h2,h3,h4⟩,-⟩:=h;have hx:x.n=b+1:=by
   have hs: -9223372036854775808<=x.n/\x.n<=9223372036854775807:=hn;simp only[IntKind.wrap,IntKind.bits,IntKind.signed]at h1;simp at h1
   split at h1<;>omega
 have hf:ib x:=⟨om,om,om,h3,fun c hc=>by have:=Mh hc;omega⟩;refine⟨hx,hf,?_⟩;obtain⟨m,-,-,e⟩:=nI hf;have h5:=iu x.batch hf.batch;have h6:=yA x.parts hf.each;have h7:=bw x.parts.length om;rw[e];simp only[ox,WX,aO,XW];omega
def Oe(sb:Nat)(s:DS)(t:LS)(y:cb)(z:du)(W:aj)(x:iB)(M K:Nat)(r:Gv):Prop:=
 (Dc z.w.slot W x r.e/\r=⟨sb,false,t,s,r.e,z⟩)∨(okW z.w.slot W x/\I5 s t y W x M K r)
attribute [local irreducible] cv bL fW bY fq fH fY iA dS cU eX bN jt wB eV gZ l9 lr fS fj dJ dY du.new cN
theorem Ev{w0:World}{H:List SA}{q sb p lp bp:Nat}{t:LS}{s:DS}{y:cb}{M K:Nat}(P:Pk s t y M K){z:du}(hzo:z.Ok)(hz0:0<=z.w.slot){W:aj}(hg:ja W)(hn:db W.view.num){n:Int}(hxn:db n){h:Vector UInt8 32}{b:BS}{pp:PS}[rb:dT w0 H (.slice b.a b.l.length b.c) b.l][rp:gy w0 H (.slice pp.a pp.ls.length pp.c) 1 (pp.ls.map BS.val)][re:ju w0 H pp.ls](hb:b.l.length<=4294960000)(hp:pp.ls.length<=1000)(he:∀x∈pp.ls,x.l.length<=140737488351232):CT prog w0 (bE q sb p (some ⟨lp,0,none⟩) bp false::bm lp p eA t::bP t::cb.H y bp (DS.H p s (du.H z sb H))) 35 [.pointer (some ⟨q,0,none⟩),.agg W.cells,.agg (ah.mk n h b pp).cells] (α:=Gv) (fun r=> .int .i64 r.e) (fun r=>pu (Oe sb s t y z W (ah.abs (ah.mk n h b pp)) M K r)::bE q r.sb p (some ⟨lp,0,none⟩) bp r.fu::bm lp p eA r.t::bP r.t::cb.H y bp (DS.H p r.s (du.H r.z r.sb H))):=by
 refine al func35 rfl ntmps35 rfl (gG ?_);refine ze rfl (aZ rfl (fun b4=>?_));refine ze rfl (aZ rfl (fun b5=>gG ?_));refine Zn ?_;refine Zb ?_;refine yC ?_ ?_<;>intro h12 p12
 ·
  cases h12
 refine gG ?_;refine ze rfl (zc (tV hg) rfl (fun x19=>?_));refine ze rfl (zc (uj (l:=wB W) (by have:=wY hg;omega)) rfl (fun x20=>gG ?_));refine ze rfl (an (fun b7=>?_));refine aag ?_;refine dw (aF b4 (.cells W.cells 44 (0,0))::bE q sb p (some ⟨lp,0,none⟩) bp false::aF sb (.cells z.v.cells 87 (0,0))::H) [(0,true),(1,true),(2,true),(3,true),(4,true),(5,true),(6,true),(7,true),(8,true),(9,true),(10,true),(11,true)] (fun hns0=>?_);refine gA ?_;refine yC ?_ ?_<;>intro h23 p23<;>refine gG ?_
 ·exact zX (⟨sb,false,t,s,7,z⟩:Gv) [_] results35 ⟨rfl,trivial⟩ rfl (aP (.inl ⟨.inl ⟨om,rfl⟩,rfl⟩) SB)
 refine yS 39 ?_ ?_<;>intro h39 p39
 ·have hno:¬okW z.w.slot W (ah.abs (ah.mk n h b pp)):=fun h=>by have:=h.2.1;omega
  refine gG ?_;refine Zc ?_;exact abH
 refine gG ?_;refine yS 43 ?_ ?_<;>intro h43 p43
 ·have hno:¬okW z.w.slot W (ah.abs (ah.mk n h b pp)):=fun h=>absurd h.2.2.1 om;refine gG ?_;refine Zc ?_;exact abH
 refine gG ?_;refine zq (nV rfl rfl) rfl ?_;refine gG ?_;refine yS 48 ?_ ?_<;>intro h48 p48
 ·have hno:¬okW z.w.slot W (ah.abs (ah.mk n h b pp)):=fun h=>by rw[decide_eq_true h.2.2.2.1]at h48;exact absurd h48 dc
  refine gG ?_;refine Zc ?_;exact abH
 have hww:(cN (wB W)).2=W:=by simpa using h48
 refine gA ?_;refine ze rfl (zc (u4 (behind:=W.slot-1) (n:=n) (h:=h) (b:=b) (p:=pp) hb hp he) rfl (fun x53=>gG ?_));refine yC ?_ ?_<;>intro h35 p35
 ·have hno:¬okW z.w.slot W (ah.abs (ah.mk n h b pp)):=by first|assumption|exact fun h=>by rw[h.2.2.2.2]at h35;exact absurd h35 dc
  refine gG ?_;exact abH
 have hrt:dJ (W.slot-1) (ah.abs (ah.mk n h b pp))=true:=by simpa using h35
 have hok:okW z.w.slot W (ah.abs (ah.mk n h b pp)):=⟨om,om,om,hww,hrt⟩;have hfit:=ku hrt hxn om om;have hfs:=ib.small (x:=(ah.mk n h b pp)) hfit.2.1;refine gG ?_;refine ze rfl (zc (rj hg (n:=n) (h:=h) (b:=b) (p:=pp) (by have:=hfs.1;omega) (by have:=hfs.2.1;omega) (fun x hx=>by have:=hfs.2.2 x hx;omega)) rfl (fun x59=>?_));refine aV (fun h59=>?_);have hsm:=ib.small (x:=x59.1.1) (by rw[h59];exact hfit.2.1);have hl4:=hfit.2.2;refine cu (dX x59.1.2 (Deep.leads x59.1.1)::row (.slice x59.2.a 1 x59.2.c) 46 32 (aX (fH (wB W)))::bE q sb p (some ⟨lp,0,none⟩) bp false::bm lp p eA t::bP t::cb.H y bp (DS.H p s (du.H z sb H))) ?_;refine cu (bE q sb p (some ⟨lp,0,none⟩) bp false::bm lp p eA t::bP t::cb.H y bp (DS.H p s (row (.slice x59.2.a 1 x59.2.c) 46 32 (aX (fH (wB W)))::dX x59.1.2 (Deep.leads x59.1.1)::du.H z sb H))) ?_;refine ze rfl (zc (Ah (q:=q) (sb:=sb) (p:=p) (lp:=lp) (bp:=bp) (t:=t) (s:=s) (y:=y) P.ok P.hM P.hK P.rT P.live P.len P.last P.av P.nodup P.ex P.nx P.AH P.keys P.es P.told hg (n:=x59.1.1.n) (h:=x59.1.1.hash) (b:=x59.1.1.batch) (pp:=x59.1.1.parts) hsm.1 hsm.2.1 hsm.2.2 (by rw[show ah.abs (ah.mk x59.1.1.n x59.1.1.hash x59.1.1.batch x59.1.1.parts)=_ from h59];exact by omega)) rfl (fun x60=>?_));refine aV (fun h60=>?_);rw[show ah.abs (ah.mk x59.1.1.n x59.1.1.hash x59.1.1.batch x59.1.1.parts)=x59.1.1.abs from rfl]at h60;refine gG ?_;refine sI (fun w hw=>Bn (u:=x59.1.1) hg hn (ib.lB (by rw[h59];exact hfit.2.1)) h60 hw) (fun r=>?_);refine Ic (fun hr=>?_);rw[h59]at hr
 exact zX r [_] results35 ⟨rfl,trivial⟩ (by rw[hr.2];rfl) (aP (.inr ⟨hok,hr.1⟩) SB)
end
section
def ij(f:kz):kz:=fun key=>if key=jJ then none else f key
structure rY(s:DS)(t:LS)(so:Option (List UInt8))(all:List (List UInt8)):Prop where
 live:Live s
 state:cont s.e2 jJ=so
 log:∃fs rc,kC eA (ij (cont s.e2)) t.av fs rc [] all t.nx
variable {s:DS} {t:LS} {so:Option (List UInt8)} {all:List (List UInt8)}
theorem LV{av:List Nat}{nx:Nat}{a:ca}{r:List UInt8}(h:yX eA av nx a r):a.name≠jJ/\(a.kind=1∨a.kind=2):=by
 rcases h with⟨-,h1,h2,-⟩|⟨h1,h2,-⟩
 · exact⟨by rw[h2];exact qn _,.inl h1⟩
 · exact⟨by rw[h2];exact qn _,.inr h1⟩
theorem KY{f:kz}{a:ca}(h1:a.name≠jJ)(h2:a.kind=1∨a.kind=2):ij (jY f a)=jY (ij f) a/\jY f a jJ=f jJ:=by
 have e:ij f a.name=f a.name:=if_neg h1;have hs:jJ≠a.name:=fun h=>h1 h.symm;rcases h2 with h2|h2
 · have d:∀(g:kz)(k:ByteArray),jY g a k=if k=a.name then some ((g a.name).getD []++a.b.l)else g k:=fun g k=>by unfold jY;rw[if_pos h2]
   refine⟨?_,by rw[d,if_neg hs]⟩
   funext key
   by_cases hk:key=jJ
   · rw[show ij (jY f a) key=none from if_pos hk,d,if_neg (by rw[hk];exact hs)]
     exact(if_pos hk).symm
   · rw[show ij (jY f a) key=jY f a key from if_neg hk,d,d,e,show ij f key=f key from if_neg hk]
 · have d:∀(g:kz)(k:ByteArray),jY g a k=if k=a.name then some a.b.l else g k:=fun g k=>by unfold jY;rw[if_neg om,if_pos h2]
   refine⟨?_,by rw[d,if_neg hs]⟩
   funext key
   by_cases hk:key=jJ
   · rw[show ij (jY f a) key=none from if_pos hk,d,if_neg (by rw[hk];exact hs)]
     exact(if_pos hk).symm
   · rw[show ij (jY f a) key=jY f a key from if_neg hk,d,d,show ij f key=f key from if_neg hk]
theorem kS.jm{s':DS}{t':LS}{r:List UInt8}{e:Int}(h:kS eA s t r s' t' e)(hT:rY s t so all)(hlast:bY t.av<99)(hr:r.length<=40000)(hnx:t.nx<=1000000){c:Nat}(hg:eQ s.e2 c):e=4∨(e=0/\rY s' t' so (all++[r])/\s'.e1=s.e1/\t'.nx=t.nx+1/\t'.gi<=100000/\t'.av.length<=t.av.length+1/\bY t'.av<=bY t.av+1):=by
 have htl:=(gx t.nx om r om).1;have hnl:=qI t.av;obtain⟨fs,rc,hL⟩:=hT.log;have fin:∀a:ca,yX eA t.av t.nx a r->Live s'->s'.e1=s.e1->cont s'.e2=jY (cont s.e2) a->t'.nx=t.nx+1->t'.gi<=100000->t'.av=(if a.kind=1 then t.av else t.av++[fq t.av])->e=0->
     e=4∨(e=0/\rY s' t' so (all++[r])/\s'.e1=s.e1/\t'.nx=t.nx+1/\t'.gi<=100000/\t'.av.length<=t.av.length+1/\bY t'.av<=bY t.av+1):=fun a ha h1 h2 h3 h4 h5 h6 h7=>by
   obtain⟨m1,m2⟩:=LV ha;obtain⟨m3,m4⟩:=KY (f:=cont s.e2) m1 m2;obtain⟨fs',rc',hL'⟩:=hL.act ha hlast;refine .inr ⟨h7,⟨h1,by rw[h3,m4];exact hT.state,fs',rc',by rw[h3,m3,h6,h4];exact hL'⟩,h2,h4,h5,?_,?_⟩
   · rw[h6];split<;>simp
   · rw[h6];split
     · omega
     · rw[nA];omega
 rcases h with⟨-,hb,h1,h2⟩|⟨h0,ha,h1,h2⟩
 · rw[nd]at hb
   rcases hb.jm hT.live (nB dc om) hg with⟨h3,-⟩|⟨h3,h4,-,h5,cl,h6,-,h7⟩
   · exact .inl h3
   · obtain⟨g1,g2,g3,-⟩:=h2 h3
     rw[nd]at g2;exact fin _ (.inr ⟨rfl,rfl,h6⟩) h4 h5 h7 g3 om (by rw[g1,if_neg (show ¬((2:Int)=1) by decide)]) h3
 · rcases ha.jm hT.live (nB dc om) hg with⟨h3,-⟩|⟨h3,h4,-,h5,cl,h6,-,h7⟩
   · exact .inl h3
   · obtain⟨g1,g2,g3,-⟩:=h2 h3
     have hsz:¬2048<=t.gi:=fun h=>h0 (.inr h);exact fin _ (.inl ⟨fun h=>h0 (.inl h),rfl,rfl,h6⟩) h4 h5 h7 g3 om (by rw[g1,if_pos (show((1:Int)=1)from rfl)]) h3
theorem rY.sync{s':DS}(h:rY s t so all)(hs:rM s s'):rY s' t so all/\s'.cw=[]/\cont s'.e1=cont s'.e2:=by
 obtain⟨h1,-,h2,h3,h4⟩:=hs.jm h.live;exact⟨⟨h1,by rw[h4];exact h.state,by rw[h4];exact h.log⟩,h2,by rw[h3,h4]⟩
def oF:aj->List iB->List ar
 |_,[]=>[]
 |W,x::xs=>(jt W (bN x.batch).2).2++oF (jt W (bN x.batch).2).1 xs
theorem sY(x:iB):∀(xs:List iB)(W:aj),oF W (xs++[x])=oF W xs++(jt (dY W xs) (bN x.batch).2).2
 |[],W=>by simp only[Xh,oF,Xn];rfl
 |u::xs,W=>by
   simp only[XG,oF,sY x xs,W4];rfl
theorem pR(xs:List iB):∀(W:aj),(dY W xs).slot=W.slot+xs.length:=by
 induction xs with
 |nil=>intro W;show W.slot=_;simp
 |cons x xs ih=>intro W;show(dY _ xs).slot=_;rw[ih,wF];simp only[Xq];omega
theorem Co{view:aH}{slot:Int}:∀(rs:List fD)(s:WS),(sH view slot s rs).out.length<=s.out.length+rs.length
 |[],s=>by show s.out.length<=_;simp
 |r::rs,s=>by
   have h:=Co (view:=view) (slot:=slot) rs (lj view slot s r);have h2:(lj view slot s r).out.length<=s.out.length+1:=by
     unfold lj
     repeat' split
     all_goals simp
   show(sH view slot (lj view slot s r) rs).out.length<=_;simp only[Xq];omega
theorem LB(w:aj)(rs:List fD):(jt w rs).2.length<=rs.length:=by
 have h:=Co (view:=w.view) (slot:=w.slot+1) rs ⟨w.cs,w.last,w.view,[]⟩;simp only[List.length_nil,XQ]at h;unfold jt;simp only
 split<;>exact h
theorem Dv(l:List UInt8):(bN l).2.length<=4:=by
 unfold bN
 repeat' split
 all_goals first|exact Xv _|skip
 rename_i h
 simp only[W6]at h;unfold Au at h;simp only[Xz,decide_eq_true_eq]at h;exact h.2.2
theorem pG(w:aj)(l:List UInt8):(jt w (bN l).2).2.length<=4:=Yk (LB _ _) (Dv l)
def Dn(n:Int)(xs:List iB):Prop:=∀(i:Nat)(hi:i<xs.length),dJ (n+i) xs[i]=true
def BT(xs:List iB):List (List UInt8):=xs.map gZ
theorem mN{ls:List ah}{k:Nat}(hk:k<ls.length):(ls.map ah.abs).take (k+1)=(ls.map ah.abs).take k++[ls[k].abs]:=by
 rw[fR _ _ abf];simp
structure Hn where
 t:LS
 s:DS
 e:Int
 fu:Bool
 z:du
 o:AC
 out:List ar
def OX(s:DS)(t:LS)(so:Option (List UInt8))(all:List (List UInt8))(z:du)(W:aj)(x0:iB)(xs ys:List iB)(M K:Nat)(r:Hn):Prop:=
 r.s.Ok (M+ys.length) K/\((r.e=8/\¬Dn z.w.slot ys/\r.t=t/\r.s=s/\r.fu=false/\r.z=z/\r.out=[])∨r.e=4∨
   (r.e=0/\Dn z.w.slot ys/\r.fu=false/\r.z.Is W x0 (xs++ys)/\r.out=oF z.w ys/\rY r.s r.t so (all++BT ys)/\r.s.cw=[]/\cont r.s.e1=cont r.s.e2/\r.t.nx=t.nx+ys.length/\(r.t.gi<=t.gi∨r.t.gi<=100000)/\r.t.av.length<=t.av.length+ys.length/\bY r.t.av<=bY t.av+ys.length))
attribute [local irreducible] cv bL fW bY fq fH fY iA dS cU eX bN jt wB eV gZ l9 lr fS fj dJ dY du.new cN oF ij
theorem vo{b:Int}{x:iB}(h:dJ b x=true)(hn:db x.n)(hb:0<=b)(hb2:b<=1000000):(gZ x).length<=40000:=by
 have:=(ku h hn hb hb2).2.2;unfold gZ;rw[Xq];omega
theorem Gn{w0:World}{H:List SA}{ls:List ah}{q sb p lp bp:Nat}{y:cb}{M K:Nat}(hok0:s.Ok M K)(hM:M<=800000)(hK:K<=1000000000)(rT:2000000<=K)(hT:rY s t so all)(hlen:t.av.length<=900)(hlast:bY t.av+ls.length<98)(hnx:t.nx+ls.length<=1000000)(hsiz:t.gi<=10000000){z:du}{W:aj}{x0:iB}{xs:List iB}(hz:z.Is W x0 xs)(hz0:0<=z.w.slot/\z.w.slot<=90000)(hxl:xs.length<=800){a:Option Addr}{c:Nat}[rc:gy w0 H (.slice a ls.length c) 35 (ls.flatMap ah.list)](hrd:∀x∈ls,Rd w0 H x)(hsm:∀x∈ls,yi x)(hxn:∀x∈ls,db x.n)(hn:ls.length<=100):CT prog w0 (bE q sb p (some ⟨lp,0,none⟩) bp false::bm lp p eA t::bP t::cb.H y bp (DS.H p s (du.H z sb H))) 29 [.pointer (some ⟨q,0,none⟩),.slice a ls.length c] (α:=Hn) (fun r=> .tuple #[.slice r.o.a r.out.length r.o.c,.int .i64 r.e]) (fun r=>pu (OX s t so all z W x0 xs (ls.map ah.abs) M K r)::row (.slice r.o.a (r.out).length r.o.c) 41 5 ((r.out).flatMap ar.list)::bE q sb p (some ⟨lp,0,none⟩) bp r.fu::bm lp p eA r.t::bP r.t::cb.H y bp (DS.H p r.s (du.H r.z sb H))):=by
 refine al func29 rfl ntmps29 rfl (gG ?_);refine Zn ?_;refine Zb ?_;refine yC ?_ ?_<;>intro h18 p18
 ·
  cases h18
 refine gG ?_;refine bH [4,5,6,7,25,26,27,28,29,30,31,32,33,34,35,36,37,38,39,40,41,42,43] [25] (fun us H'=>∃(k:Nat),us=[.int .i64 (k:Int)]/\bE q sb p (some ⟨lp,0,none⟩) bp false::bm lp p eA t::bP t::cb.H y bp (DS.H p s (du.H z sb H))=H'/\k<=ls.length/\(∀(i:Nat)(hi:i<k)(hl:i<ls.length),dJ (z.w.slot+i) ls[i].abs=true)) (fun us=>match us with| .int _ i::_=>ls.length-i.toNat|_=>0) ⟨0,rfl,rfl,om,(fun i hi=>absurd hi (Ya i))⟩ SB ?_;rintro τ0 _ _ ⟨k,rfl,rfl,hk0,hr1⟩ _;refine gG ?_;refine yC ?_ ?_<;>intro h26 p26
 ·have hk:k<ls.length:=om;refine gG ?_;refine aaH ?_;refine ze rfl (an (fun b7=>gG ?_));refine aag ?_;refine dw (aF b7 (.cells ls[k].cells 50 (0,0))::bE q sb p (some ⟨lp,0,none⟩) bp false::aF sb (.cells z.v.cells 87 (0,0))::H) [(0,true),(1,true),(2,true),(3,true),(4,true),(5,true),(6,true),(7,true),(8,true),(9,true),(10,true),(11,false),(12,true)] (fun hns0=>?_);refine gA ?_;have rdk:Rd w0 H ls[k]:=hrd _ (W1 hk);have hsk:=hsm _ (W1 hk);refine cX rfl rfl (zc (u4 (behind:=z.w.slot+k) (n:=ls[k].n) (h:=ls[k].hash) (b:=ls[k].batch) (p:=ls[k].parts) hsk.1 hsk.2.1 hsk.2.2) rfl (fun x41=>⟨SB,(gA ?_)⟩));refine yC ?_ ?_<;>intro h42 p42
  ·have hno:¬Dn z.w.slot (ls.map ah.abs):=fun h=>by
    have h2:=h k abf;rw[XP]at h2;rw[h2]at h42;exact absurd h42 dc
   refine gG ?_;refine Zd ?_;exact zX (⟨t,s,8,false,z,(⟨none,0⟩:AC),[]⟩:Hn) [_,_] results29 ⟨rfl,rfl,trivial⟩ rfl (fun w hw=>((cJ.st inferInstance w ((SB w hw:St w0 (bE q sb p (some ⟨lp,0,none⟩) bp false::bm lp p eA t::bP t::cb.H y bp (DS.H p s (du.H z sb H))) w).cT 41 5):St w0 (row (.slice none 0 0) 41 5 []::bE q sb p (some ⟨lp,0,none⟩) bp false::bm lp p eA t::bP t::cb.H y bp (DS.H p s (du.H z sb H))) w)).aC (⟨hok0.mono om (W8 _),.inl ⟨rfl,hno,rfl,rfl,rfl,rfl,rfl⟩⟩))
  refine gA ?_;exact xl ⟨k+1,rfl,rfl,om,(fun i hi hl=>(Nat.lt_succ_iff_lt_or_eq.1 hi).elim (fun h=>hr1 i h hl) (fun h=>by subst h;simpa using h42))⟩
 have hall:∀(i:Nat)(hl:i<ls.length),dJ (z.w.slot+i) ls[i].abs=true:=fun i hl=>hr1 i om hl;have hokd:Dn z.w.slot (ls.map ah.abs):=fun i hi=>by rw[XP];exact hall i acq
 have hrk:∀(k:Nat)(hk:k<ls.length),(gZ ls[k].abs).length<=40000:=fun k hk=>vo (hall k hk) (hxn _ (W1 hk)) om om;refine gG ?_;refine Za ?_;refine bH [4,5,9,10,46,47,48,49,50,51,52,53,54,55,56,57,58,59,60,61,62] [46] (fun us H'=>∃(k:Nat)(tk:LS)(sk:DS),us=[.int .i64 (k:Int)]/\bE q sb p (some ⟨lp,0,none⟩) bp false::bm lp p eA tk::bP tk::cb.H y bp (DS.H p sk (du.H z sb H))=H'/\k<=ls.length/\(sk.Ok (M+k) K)/\(rY sk tk so (all++BT ((ls.map ah.abs).take k)))/\(tk.nx=t.nx+k)/\(tk.gi<=t.gi∨tk.gi<=100000)/\(tk.av.length<=t.av.length+k)/\(bY tk.av<=bY t.av+k)) (fun us=>match us with| .int _ i::_=>ls.length-i.toNat|_=>0) ⟨0,t,s,rfl,rfl,om,hok0,by rw[XD];unfold BT;rw[X6,Xn];exact hT,rfl,.inl (W8 _),W8 _,W8 _⟩ SB ?_;rintro τ1 _ _ ⟨k,tk,sk,rfl,rfl,hk0,hok,hTk,hnk,hzk,hgk,hlk⟩ _;refine gG ?_;refine yC ?_ ?_<;>intro h47 p47
 ·have hk:k<ls.length:=om;refine gG ?_;refine aaH ?_;refine ze rfl (an (fun b9=>?_));refine aa1 ?_;refine zz (zx (kT [10,50,51,52,53,54,55,56,57,58] [10] (fun us H'=>∃(s4:DS)(t4:LS)(e4:Int),us=[.int .i64 e4]/\(aF b9 (.cells ls[k].cells 50 (0,0))::bE q sb p (some ⟨lp,0,none⟩) bp (decide (e4=4)||false)::bm lp p eA t4::bP t4::cb.H y bp (DS.H p s4 (du.H z sb H)))=H'/\kS eA sk tk (gZ ls[k].abs) s4 t4 e4) ?_ ?_))
  ·refine jC (aF b9 (.cells ls[k].cells 50 (0,0))::H) kr SB (bz (i:=0) kr rfl kr kr (zm (.pointer _) rfl) rfl (bz (i:=1) kr rfl kr kr (zm (.pointer _) rfl) rfl (bz (i:=2) kr rfl kr kr (aN rfl) rfl (bz (i:=3) kr rfl kr kr (zf 2 rfl rfl) rfl (bz (i:=5) kr rfl kr kr (zn rfl rfl) rfl ?_)))));refine nn (i:=4) (j:=6) kr ?_ ?_
   ·refine aaG ?_;refine adJ ?_;have rdk:Rd w0 H ls[k]:=hrd _ (W1 hk);have hfk:ib ls[k].abs/\(eV ls[k].abs).length<=39000:=(ku (hall k hk) (hxn _ (W1 hk)) om om).2;have hfs:=ib.small hfk.1;have hrl:(gZ ls[k].abs).length<=40000:=hrk k hk;refine cq rfl rfl (zc (nL (n:=ls[k].n) (h:=ls[k].hash) (b:=ls[k].batch) (p:=ls[k].parts) hfs.1 hfs.2.1 hfs.2.2) rfl (fun x56=>⟨SB,?_⟩));refine ab2 ?_;refine acd ?_;refine cq rfl rfl (zc (pM (lp:=lp) (p:=p) (pre:=eA) (t:=tk) (s:=sk) hok om hK om dc om om om om (b:=⟨x56.a,x56.c,(gZ ls[k].abs)⟩) aiP) rfl (fun x57=>⟨SB,?_⟩));refine gH (fun h57=>?_);refine acx ?_;refine acO ?_;refine cq rfl rfl (zc (tz (q:=q) (sb:=sb) (p:=p) (lp:=lp) (bp:=bp) (fu:=false) (e:=x57.2.2)) rfl (fun x58=>⟨SB,?_⟩));refine acY ?_;refine eH kr ?_;refine dU _ zA (⟨x57.1,x57.2.1,x57.2.2,rfl,rfl,h57⟩) (SB)
   have rdk:Rd w0 H ls[k]:=hrd _ (W1 hk);have hfk:ib ls[k].abs/\(eV ls[k].abs).length<=39000:=(ku (hall k hk) (hxn _ (W1 hk)) om om).2;have hfs:=ib.small hfk.1;have hrl:(gZ ls[k].abs).length<=40000:=hrk k hk;refine cq rfl rfl (zc (nL (n:=ls[k].n) (h:=ls[k].hash) (b:=ls[k].batch) (p:=ls[k].parts) hfs.1 hfs.2.1 hfs.2.2) rfl (fun x56=>⟨SB,?_⟩));refine acZ ?_;refine aaG ?_;refine ab2 ?_;refine acd ?_;refine cq rfl rfl (zc (pM (lp:=lp) (p:=p) (pre:=eA) (t:=tk) (s:=sk) hok om hK om dc om om om om (b:=⟨x56.a,x56.c,(gZ ls[k].abs)⟩) aiP) rfl (fun x57=>⟨SB,?_⟩));refine gH (fun h57=>?_);refine acx ?_;refine acO ?_;refine cq rfl rfl (zc (tz (q:=q) (sb:=sb) (p:=p) (lp:=lp) (bp:=bp) (fu:=false) (e:=x57.2.2)) rfl (fun x58=>⟨SB,?_⟩));refine acY ?_;refine eH kr ?_;refine dU _ zA (⟨x57.1,x57.2.1,x57.2.2,rfl,rfl,h57⟩) (SB)
  rintro τc1 _ _ ⟨s4,t4,e4,rfl,rfl,h57⟩ _;have hrl:(gZ ls[k].abs).length<=40000:=hrk k hk;have hok4:=h57.Ao hok (by have:=(gx tk.nx om (gZ ls[k].abs) om).1;omega) rT;have hlf:=h57.jm hTk om hrl om hok.gR;refine gG ?_;refine yC ?_ ?_<;>intro h60 p60
  ·have he4:e4=4:=by rcases hlf with h|⟨h,-⟩;exact h;omega
   refine gG ?_;refine Zd ?_;exact zX (⟨t4,s4,e4,(decide (e4=4)||false),z,(⟨none,0⟩:AC),[]⟩:Hn) [_,_] results29 ⟨rfl,rfl,trivial⟩ rfl (fun w hw=>((cJ.st inferInstance w ((SB w hw:St w0 (bE q sb p (some ⟨lp,0,none⟩) bp (decide (e4=4)||false)::bm lp p eA t4::bP t4::cb.H y bp (DS.H p s4 (du.H z sb H))) w).cT 41 5):St w0 (row (.slice none 0 0) 41 5 []::bE q sb p (some ⟨lp,0,none⟩) bp (decide (e4=4)||false)::bm lp p eA t4::bP t4::cb.H y bp (DS.H p s4 (du.H z sb H))) w)).aC (⟨hok4.mono acG (W8 _),.inr (.inl he4)⟩))
  obtain he4|⟨he0,hq2,hq3,hq4,hq5,hq6,hq7⟩:=hlf
  · exact absurd he4 om
  rw[show(decide (e4=4)||false)=false from by rw[he0];rfl];refine gA ?_;exact xl ⟨k+1,t4,s4,rfl,rfl,om,hok4.mono om (W8 _),by rw[mN hk];unfold BT at hq2 ⊢;rw[Xi,List.map_singleton,←W4];exact hq2,om,.inr hq5,om,om⟩
 obtain rfl:k=ls.length:=om;rw[W7 (i:=ls.length) (l:=(ls.map ah.abs)) sm]at hTk;refine gG ?_;refine Za ?_;refine cu (bE q sb p (some ⟨lp,0,none⟩) bp false::bm lp p eA tk::bP tk::DS.H p sk (cb.H y bp (du.H z sb H))) ?_;refine ze rfl (zc (C0 (q:=q) (sb:=sb) (p:=p) (lp:=lp) (bp:=bp) (fu:=false) (t:=tk) (s:=sk) hok om hK) rfl (fun x64=>?_));refine aV (fun h64=>?_);obtain⟨hT64,hp64,hq64⟩:=hTk.sync h64;have hok64:=h64.ok hok;rw[if_neg (show ¬x64.down=true by rw[hT64.live.down];decide)];refine gG ?_;refine yC ?_ ?_<;>intro h66 p66
 ·exact absurd h66 dc
 refine gG ?_;refine bH [12,14,70,71,72,73,74,75,76,77,78,79,80,81,82] [70,12] (fun us H'=>∃(k:Nat)(zk:du)(ov:List ar)(oa:Option Addr)(oc:Nat),us=[.int .i64 (k:Int),.slice oa ov.length oc]/\row (.slice oa (ov).length oc) 41 5 ((ov).flatMap ar.list)::bE q sb p (some ⟨lp,0,none⟩) bp false::bm lp p eA tk::bP tk::cb.H y bp (DS.H p x64 (du.H zk sb H))=H'/\k<=ls.length/\(zk.Is W x0 (xs++(ls.map ah.abs).take k))/\(ov=oF z.w ((ls.map ah.abs).take k))/\(ov.length<=4*k)) (fun us=>match us with| .int _ i::_=>ls.length-i.toNat|_=>0) ⟨0,z,[],none,0,rfl,rfl,om,by rw[XD,Xn];exact hz,by rw[XD];unfold oF;rfl,Xv _⟩ (fun w hw=>(SB w hw:St w0 (bE q sb p (some ⟨lp,0,none⟩) bp false::bm lp p eA tk::bP tk::cb.H y bp (DS.H p x64 (du.H z sb H))) w).cT 41 5) ?_;rintro τ2 _ _ ⟨k,zk,ov,oa,oc,rfl,rfl,hk0,hzi,hov,hol⟩ _;have hzw:zk.w=dY z.w ((ls.map ah.abs).take k):=by rw[hzi.w,Kb,hz.w]
 have hzs:zk.w.slot=z.w.slot+k:=by rw[hzw,pR,Xj,WZ];omega
 have hzl:zk.aT.length=xs.length+k:=by have:=congrArg List.length hzi.aT;rw[WZ,WX,Xj,WZ]at this;omega
 have hzd:zk.ds.length=xs.length+k+1:=by rw[hzi.ds,mS,WX,Xj,WZ];omega
 refine gG ?_;refine yC ?_ ?_<;>intro h71 p71
 ·have hk:k<ls.length:=om;refine gG ?_;refine aaH ?_;refine ze rfl (an (fun b14=>?_));refine aag ?_;refine dw (aF b14 (.cells ls[k].cells 50 (0,0))::bE q sb p (some ⟨lp,0,none⟩) bp false::H) [(0,true),(1,true),(2,true),(3,true),(4,true),(5,true),(6,false),(7,false),(8,true)] (fun hns2=>?_);refine gA ?_;have rdk:Rd w0 H ls[k]:=hrd _ (W1 hk);have hfk:ib ls[k].abs/\(eV ls[k].abs).length<=39000:=(ku (hall k hk) (hxn _ (W1 hk)) om om).2;have hfs:=ib.small hfk.1;refine gX (fun w hw=>(SB w hw:St w0 (du.H zk sb (row (.slice oa (ov).length oc) 41 5 ((ov).flatMap ar.list)::aF b14 (.cells ls[k].cells 50 (0,0))::bE q sb p (some ⟨lp,0,none⟩) bp false::bm lp p eA tk::bP tk::cb.H y bp (DS.H p x64 H))) w)) ?_;refine cX rfl rfl (zc (MM (sp:=sb) (y:=zk) hzi.ok om om om (n:=ls[k].n) (h:=ls[k].hash) (b:=ls[k].batch) (p:=ls[k].parts) (by have:=hfs.1;omega) (by have:=hfs.2.1;omega) (fun x hx=>by have:=hfs.2.2 x hx;omega)) rfl (fun x80=>⟨SB,?_⟩));refine im (fun h80=>?_);refine cX rfl rfl (cp ar.list (sv:= .slice _ _ _) (xv:= .slice _ _ _) (xs:=ov) (ys:=(jt zk.w (bN ls[k].batch.l).2).2) ar.ae ar.aS rfl rfl (by have:=pG zk.w ls[k].batch.l;omega) rfl rfl (fun a81 c81=>⟨SB,(gA ?_)⟩));exact xl ⟨k+1,x80.1,ov++(jt zk.w (bN ls[k].batch.l).2).2,a81,c81,rfl,rfl,om,by rw[mN hk,←W4];exact hzi.step h80.2 h80.1,by rw[mN hk,sY,hov,hzw];rfl,by rw[WX];have:=pG zk.w ls[k].batch.l;omega⟩
 obtain rfl:k=ls.length:=om;rw[W7 (i:=ls.length) (l:=(ls.map ah.abs)) sm]at hzi hov;refine gG ?_;refine Za ?_;exact zX (⟨tk,x64,0,false,zk,(⟨oa,oc⟩:AC),ov⟩:Hn) [_,_] results29 ⟨rfl,rfl,trivial⟩ rfl (fun w hw=>((cJ.st inferInstance w (hw):St w0 (row (.slice ((⟨oa,oc⟩:AC)).a (ov).length ((⟨oa,oc⟩:AC)).c) 41 5 ((ov).flatMap ar.list)::bE q sb p (some ⟨lp,0,none⟩) bp false::bm lp p eA tk::bP tk::cb.H y bp (DS.H p x64 (du.H zk sb H))) w)).aC (⟨hok64.mono acG (W8 _),.inr (.inr ⟨rfl,hokd,rfl,hzi,hov,hT64,hp64,hq64,by rw[WZ];exact hnk,hzk,by rw[WZ];exact hgk,by rw[WZ];exact hlk⟩)⟩))
end
end Go.Proofs.YtmbfimckmfnnjaaGreatDoor
