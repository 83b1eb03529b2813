/- Steps of the proof of a law. -/
import Derived.Test.YtmbfimckmfnnjaaGreatDoorQ40
import Derived.Test.YtmbfimckmfnnjaaGreatDoorQ41
set_option maxRecDepth 100000
set_option maxHeartbeats 1000000
set_option linter.unusedSimpArgs false
set_option linter.unusedVariables false
namespace Go.Proofs.YtmbfimckmfnnjaaGreatDoor
open Go.RowKit Go.Sx Go.Proofs.Tryz
section
def O9:ByteArray:=⟨#[46,110,101,119]⟩
def qj:ByteArray:=jJ++O9
theorem FE:Op.stringOp .add jJ O9=pure (.string qj):=pV dc
theorem Nt:qj≠jJ:=fun h=>absurd (congrArg ByteArray.size h) dc
theorem HK:jI jJ=true:=dc
theorem yO:jI qj=true:=dc
def lr(f:kz)(g:List UInt8):kz:=fun key=>if key=jJ then some g else if key=qj then none else f key
theorem Bh{f:kz}{g:List UInt8}{a b:ca}(ha:a.kind=2)(han:a.name=qj)(hab:a.b.l=g)(hb:b.kind=3)(hbn:b.name=qj)(hbt:b.to=jJ):jY (jY f a) b=lr f g:=by
 have hd:∀key,jY f a key=if key=qj then some g else f key:=fun key=>by
   unfold jY;rw[if_neg om,if_pos ha,han,hab]
 funext key
 have e:∀h:kz,jY h b key=if (h b.name).isSome=true/\b.name≠b.to then(if key=b.to then h b.name else if key=b.name then none else h key)else h key:=fun h=>by
   unfold jY;rw[if_neg om,if_neg om,if_pos hb]
 rw[e,hbn,hbt,hd,if_pos rfl,if_pos ⟨rfl,Nt⟩,hd];unfold lr;by_cases q1:key=jJ
 · rw[if_pos q1,if_pos q1]
 · rw[if_neg q1,if_neg q1]
   by_cases q2:key=qj
   · rw[if_pos q2,if_pos q2]
   · rw[if_neg q2,if_neg q2,if_neg q2]
def O8(s:DS)(b:List UInt8)(M K:Nat)(s':DS)(e:Int):Prop:=
 s'.Ok (M+2) K/\(e=4∨(e=0/\b.length<=65536/\Live s'/\s'.cw=[]/\cont s'.e1=cont s'.e2/\cont s'.e2=lr (cont s.e2) (fS b)))
attribute [local irreducible] fH fS qj lr
theorem DE{w0:World}{H:List SA}{p:Nat}{s:DS}{M K:Nat}(hok:s.Ok M K)(hM:M<=900000)(hK:K<=1000000000)(rT:2000000<=K)(hlv:Live s){a:Option Addr}{l:List UInt8}{c:Nat}[hr:dT w0 H (.slice a l.length c) l](hl:l.length<=1400000):CT prog w0 (DS.H p s H) 158 [.pointer (some ⟨p,0,none⟩),.string jJ,.slice a l.length c] (α:=DS×Int) (fun y=> .int .i64 y.2) (fun y=>pu (O8 s l M K y.1 y.2)::DS.H p y.1 H):=by
 have hsl:(fS l).length<=1400100:=by
   have h1:=bw l.length om;have h2:(aY l).length=(packed l.length).length+l.length:=by simp[aY]
   rw[lU];omega
 refine al func158 rfl ntmps158 rfl (gG ?_);refine ze rfl (zc (uG) rfl (fun x12=>gG ?_));refine Zb ?_;refine yC ?_ ?_<;>intro h18 p18<;>refine gG ?_
 ·exact zX (s,4) [_] results158 ⟨rfl,trivial⟩ rfl (aP (⟨hok.mono om (W8 _),.inl rfl⟩) SB)
 refine aab ?_;refine ze rfl (zc (E5 (l:=l) hl) rfl (fun x23=>?_));refine cu (DS.H p s (row (.slice x23.a (fS l).length x23.c) 5 1 (aE (fS l))::H)) ?_;refine ze rfl (zc (uC (s:=s) hok om om (nm:=qj) (b:=⟨x23.a,x23.c,fS l⟩) (by show(fS l).length<=2000000;omega) (by show(fS l).length<=K;omega)) rfl (fun x24=>?_));refine aV (fun h24=>?_);have hok24:=h24.Ao (.inr rfl) hok (by show(fS l).length<=2000000;omega) rT;have hlf:=h24.jm hlv yO hok.gR;refine gG ?_;refine yC ?_ ?_<;>intro h26 p26
 ·obtain⟨he0,-⟩|⟨he4,-⟩:=hlf.symm
  · exact absurd he0 p26
  refine gG ?_;exact zX (x24.1,x24.2) [_] results158 ⟨rfl,trivial⟩ rfl (aP (⟨hok24.mono om (W8 _),.inl he4⟩) SB)
 obtain⟨he4,-⟩|⟨he0,hlv24,-,h24a,cl,hcl,hpd,hct⟩:=hlf
 · exact absurd he4 om
 refine gG ?_;refine ze rfl (zc (pf (s:=x24.1) hok24 om om) rfl (fun x29=>?_));refine aV (fun h29=>?_);have hok29:=h29.ok hok24;obtain⟨hlv29,-,hp29,h29a,h29b⟩:=h29.jm hlv24;have hc29:cont x29.e2=jY (cont s.e2) ⟨2,qj,⟨#[]⟩,cl⟩:=by rw[h29b];exact hct
 refine gG ?_;refine aab ?_;refine ze rfl (zc (Cb (s:=x29) hok29 om om (nm:=qj) (to:=jJ)) rfl (fun x34=>?_));refine aV (fun h34=>?_);have hok34:=h34.Ao hok29 rfl (show(3:Int)≠1 by decide) (show(3:Int)≠2 by decide);obtain⟨he34,hlv34,-,hc34⟩:=h34.jm hlv29 (by rw[yO,HK];rfl) (oP (l:=fS l) (by rw[hc29];exact FD hcl)) hok29.gR;refine gG ?_;refine yC ?_ ?_<;>intro h36 p36
 ·exact absurd he34 om
 refine gG ?_;refine ze rfl (zc (pf (s:=x34.1) hok34 om om) rfl (fun x39=>?_));refine aV (fun h39=>?_);have hok39:=h39.ok hok34;obtain⟨hlv39,-,hp39,h39a,h39b⟩:=h39.jm hlv34;have hc39:cont x39.e2=lr (cont s.e2) (fS l):=by rw[h39b,hc34,hc29];exact Bh rfl rfl hcl rfl rfl rfl
 refine gG ?_;exact zX (x39,0) [_] results158 ⟨rfl,trivial⟩ rfl (aP (⟨hok39,.inr ⟨rfl,om,hlv39,hp39,by rw[h39a,h39b],hc39⟩⟩) SB)
end
section
theorem tV{w0:World}{H:List SA}{W:aj}(hg:ja W):CT prog w0 H 90 [.agg W.cells] (α:=AC) (fun y=> .slice y.a (wB W).length y.c) (fun y=>row (.slice y.a (wB W).length y.c) 5 1 (aE (wB W))::H):=by
 obtain⟨s,f,⟨n1,m1⟩,⟨n2,m2⟩,cs,rs⟩:=W;obtain⟨⟨k1,h1,e1⟩,⟨k2,h2,e2⟩,h3,h4⟩:=hg;simp only at e1 e2;subst e1;subst e2;exact wM h1 h2 h3 h4
theorem Fk{n:Nat}{c:UInt8}{l:List UInt8}{b:ByteArray}(hb:b.data.toList=c::l)(hc:c≠108):fW eA n≠b:=fun h=>by
 have h1:=congrArg (fun b:ByteArray=>b.data.toList) h;simp only[sA,hb]at h1;have h2:(eA++mT).data.toList=[108,111,103,46]:=rfl;rw[h2]at h1;simp only[XG,List.cons.injEq]at h1;exact hc h1.1.symm
theorem qn(n:Nat):fW eA n≠jJ:=Fk (l:=[116,97,116,101]) (c:=115) rfl dc
theorem Nv(n:Nat):fW eA n≠qj:=Fk (l:=[116,97,116,101,46,110,101,119]) (c:=115) rfl dc
theorem Ma{f:kz}{g:List UInt8}(n:Nat):lr f g (fW eA n)=f (fW eA n):=by
 unfold lr;rw[if_neg (qn n),if_neg (Nv n)]
structure Nj where
 nb:Nat
 sb:Nat
 fu:Bool
 t:LS
 s:DS
 e:Int
def O5(s:DS)(t:LS)(y:cb)(b:List UInt8)(s':DS)(t':LS):Prop:=b.length<=65536/\Live s'/\s'.cw=[]/\cont s'.e1=cont s'.e2/\∃zs ds,rB y zs ds/\
 cont s'.e2=l9 eA (lr (cont s.e2) (fS b)) t.av (bL t.nx (iA zs)) t.av.length/\t'.av=[fq t.av]/\t'.nx=t.nx+zs.length/\t'.gi=(bL t.nx (iA zs)).length
def Jp(sb:Nat)(s:DS)(t:LS)(y:cb)(b:List UInt8)(M K:Nat)(z:Nj):Prop:=
 z.s.Ok (M+3+t.av.length) K/\((z.e=4/\z.sb=sb)∨(z.e=0/\z.sb=z.nb/\z.fu=false/\O5 s t y b z.s z.t))
theorem F7{zs:List af}{k:Nat}(hk:k<zs.length):iA (zs.take (k+1))=iA (zs.take k)++[fY zs[k].abs]:=by
 unfold iA;rw[Xf hk,Xi];rfl
theorem ym(W:aj)(x:iB):aY (wB W)++packed (eV x).length++eV x=fj W x:=by unfold fj;rw[W4];rfl
attribute [local irreducible] cv bL fW bY fq fH fY iA dS cU eX bN jt wB eV gZ l9 lr fS fj
theorem Ah{w0:World}{H:List SA}{q sb p lp bp:Nat}{t:LS}{s:DS}{y:cb}{M K:Nat}(hok:s.Ok M K)(hM:M<=800000)(hK:K<=1000000000)(rT:2000000<=K)(hlv:Live s)(hsl:t.av.length<=1000)(hlast:bY t.av<98)(hm1:∀n∈t.av,n<fq t.av/\n<100)(hnd:t.av.Nodup)(hex:∀n∈t.av,eZ s.e2 (fW eA n)=true)(hnx:t.nx<=1000000)(hy:y.Ok)(hin:∀e∈y.es,e.k∈j8)(hne:y.es.length<=1000)(hz:∀zs ds,rB y zs ds->zs.length<=1000/\(∀v∈zs,ff v.abs/\(cU v.abs).1.length<=30000)/\(bL t.nx (iA zs)).length<=1000000){W:aj}(hg:ja W){n:Int}{h:Vector UInt8 32}{b:BS}{pp:PS}{f2 f3:Sl}{f4:Int}[rb:dT w0 H (.slice b.a b.l.length b.c) b.l][rp:gy w0 H (.slice pp.a pp.ls.length pp.c) 1 (pp.ls.map BS.val)][re:ju w0 H pp.ls](hb:b.l.length<=65536)(hp:pp.ls.length<=16)(he:∀x∈pp.ls,x.l.length<=65536)(hsz:(eV (ah.abs (ah.mk n h b pp))).length<=1200000):CT prog w0 (bE q sb p (some ⟨lp,0,none⟩) bp false::bm lp p eA t::bP t::cb.H y bp (DS.H p s H)) 89 [.pointer (some ⟨q,0,none⟩),.agg (aM.mk W (ah.mk n h b pp) f2 f3 f4).cells] (α:=Nj) (fun z=> .int .i64 z.e) (fun z=>pu (Jp sb s t y (fj W (ah.abs (ah.mk n h b pp))) M K z)::bE q z.sb p (some ⟨lp,0,none⟩) bp z.fu::bm lp p eA z.t::bP z.t::cb.H y bp (DS.H p z.s (aF z.nb (.cells (aM.mk W (ah.mk n h b pp) f2 f3 f4).cells 87 (0,0))::H))):=by
 have hwl:=wY hg;have htl:=iu (wB W) om;have hstl:(fj W (ah.abs (ah.mk n h b pp))).length<=1400000:=by
   have h1:=bw (eV (ah.abs (ah.mk n h b pp))).length om;rw[←ym];simp only[WX];omega
 refine al func89 rfl ntmps89 rfl (gG ?_);refine ze rfl (aZ rfl (fun b3=>gG ?_));refine dw (aF b3 (.cells (aM.mk W (ah.mk n h b pp) f2 f3 f4).cells 87 (0,0))::H) [(0,true),(1,true),(4,true),(5,true),(2,false),(3,false),(6,false),(7,true),(8,false),(9,true)] (fun hns0=>?_);refine zd hns0 rfl (zf 0 rfl rfl) rfl (zd hns0 rfl (zn rfl rfl) rfl (zd hns0 rfl (zf 68 rfl rfl) rfl ?_));refine gA ?_;refine cX rfl rfl (zc (tV hg) rfl (fun x13=>⟨SB,?_⟩));refine cX rfl rfl (zc (gW (a:=none) (l:=[]) (c:=0) (l2:=wB W) (hr:=dT.B4) sm om) rfl (fun x14=>⟨SB,?_⟩));rw[show([]:List UInt8)++packed (wB W).length++wB W=aY (wB W)from rfl];refine cX rfl rfl (zc (nL hb hp he) rfl (fun x17=>⟨SB,?_⟩));refine zd hns0 rfl (ki 1 rfl rfl (rJ _)) rfl ?_;refine cX rfl rfl (zc (gW (l:=aY (wB W)) (l2:=(gZ (ah.abs (ah.mk n h b pp))).drop 1) om (by rw[sK];omega)) rfl (fun x19=>⟨SB,?_⟩));rw[sK,ym];refine gA ?_;refine cu (DS.H p s (row (.slice x19.a ((fj W (ah.abs (ah.mk n h b pp)))).length x19.c) 5 1 (aE ((fj W (ah.abs (ah.mk n h b pp)))))::aF b3 (.cells (aM.mk W (ah.mk n h b pp) f2 f3 f4).cells 87 (0,0))::bE q sb p (some ⟨lp,0,none⟩) bp false::bm lp p eA t::bP t::cb.H y bp H)) ?_;refine ze rfl (zc (DE (p:=p) (s:=s) hok om hK rT hlv (l:=(fj W (ah.abs (ah.mk n h b pp)))) om) rfl (fun x26=>?_));refine aV (fun h26=>?_);refine cu (bE q sb p (some ⟨lp,0,none⟩) bp false::aF b3 (.cells (aM.mk W (ah.mk n h b pp) f2 f3 f4).cells 87 (0,0))::bm lp p eA t::bP t::cb.H y bp (DS.H p x26.1 H)) ?_
 refine ze rfl (zc (tz (q:=q) (sb:=sb) (p:=p) (lp:=lp) (bp:=bp) (fu:=false) (e:=x26.2)) rfl (fun x27=>gG ?_));refine yC ?_ ?_<;>intro h29 p29
 ·obtain⟨he0,-⟩|he4:=h26.2.symm
  · exact absurd he0 p29
  refine gG ?_;exact zX (⟨b3,sb,(decide (x26.2=4)||false),t,x26.1,x26.2⟩:Nj) [_] results89 ⟨rfl,trivial⟩ rfl (aP (⟨h26.1.mono om (W8 _),.inl ⟨he4,rfl⟩⟩) SB)
 obtain he4|⟨he0,hb65,hlv26,hp26,hq26,hc26⟩:=h26.2
 · exact absurd he4 om
 have hex2:∀n∈t.av,eZ x26.1.e2 (fW eA n)=true:=fun n hn=>by rw[kE,hc26,Ma,←kE];exact hex n hn
 rw[show(decide (x26.2=4)||false)=false from by rw[he0];rfl];refine gG ?_;refine cu (cb.H y bp (bE q sb p (some ⟨lp,0,none⟩) bp false::aF b3 (.cells (aM.mk W (ah.mk n h b pp) f2 f3 f4).cells 87 (0,0))::bm lp p eA t::bP t::DS.H p x26.1 H)) ?_;refine ze rfl (zc (ML (p:=bp) (y:=y) hy hin hne) rfl (fun x35=>?_));refine aV (fun h35=>?_);have hzb:=hz _ _ h35;refine gG ?_;refine bH [7,9,37,38,39,40,41,42,43,44,45,46] [37,7] (fun us H'=>∃(k:Nat)(a7:Option Addr)(c7:Nat)(ms:List BS)(fp:List Nat),us=[.int .i64 (k:Int),.slice a7 (ms.map BS.val).length c7]/\row (.slice a7 (ms.map BS.val).length c7) 47 1 (ms.map BS.val)::ep fp ms::row (.slice x35.1.a (x35.2.1).length x35.1.c) 57 38 ((x35.2.1).flatMap af.list)::eG x35.2.2.1 x35.2.2.2::bE q sb p (some ⟨lp,0,none⟩) bp false::bm lp p eA t::bP t::cb.H y bp (DS.H p x26.1 (aF b3 (.cells (aM.mk W (ah.mk n h b pp) f2 f3 f4).cells 87 (0,0))::H))=H'/\k<=x35.2.1.length/\(ms.map BS.l=iA (x35.2.1.take k))) (fun us=>match us with| .int _ i::_=>x35.2.1.length-i.toNat|_=>0) ⟨0,none,0,[],[],rfl,rfl,om,by unfold iA;simp⟩ (fun w hw=>((SB w hw:St w0 (row (.slice x35.1.a (x35.2.1).length x35.1.c) 57 38 ((x35.2.1).flatMap af.list)::eG x35.2.2.1 x35.2.2.2::bE q sb p (some ⟨lp,0,none⟩) bp false::bm lp p eA t::bP t::cb.H y bp (DS.H p x26.1 (aF b3 (.cells (aM.mk W (ah.mk n h b pp) f2 f3 f4).cells 87 (0,0))::H))) w).pO).AK 47) ?_;rintro τ0 _ _ ⟨k,a7,c7,ms,fp,rfl,rfl,hk0,hms⟩ _;have hml:ms.length=k:=ahe;refine gG ?_;refine yC ?_ ?_<;>intro h38 p38
 ·have hk:k<x35.2.1.length:=om;refine gG ?_;refine zq (bn rfl rfl om om) rfl (zq (kl (k:=k) rfl hk) rfl ?_);refine ze rfl (an (fun b9=>?_));refine acb ?_;have rvz:jF w0 (eG x35.2.2.1 x35.2.2.2::bE q sb p (some ⟨lp,0,none⟩) bp false::bm lp p eA t::bP t::cb.H y bp (DS.H p x26.1 (aF b3 (.cells (aM.mk W (ah.mk n h b pp) f2 f3 f4).cells 87 (0,0))::H))) x35.2.1:=E0 h35;have hzk:=W1 hk;have rbz:=rvz.b _ hzk;have rcz:=rvz.c _ hzk;have rez:=rvz.e _ hzk;have hsk:=hzb.2.1 _ hzk;refine ze rfl (zc (oj (v:=x35.2.1[k]) hsk.1 hsk.2) rfl (fun x43=>?_));refine ze rfl (dH (v:= .slice _ _ _) rfl (fun a44 c44=>?_));refine ze rfl (js (sv:= .slice _ _ _) (xv:= .slice _ _ _) rfl rfl agm so rfl (fun a45 c45=>gA ?_));apply bW
  case ha=>exact aff
  case hI=>exact⟨k+1,a45,c45,ms++[(⟨x43.a,x43.c,fY x35.2.1[k].abs⟩:BS)],bQ (.slice x43.a (fY x35.2.1[k].abs).length x43.c)++fp,by simp only[Xi,Xt,X6];rfl,rfl,om,by rw[F7 hk,Xi,hms];rfl⟩
  case hm=>exact by show x35.2.1.length-(k+1:Int).toNat<x35.2.1.length-(k:Int).toNat;omega
  case hH=>exact fun w hw=>by
                have h1:St w0 (row (.slice a45 ((ms.map BS.val)++[Value.slice x43.a (fY x35.2.1[k].abs).length x43.c]).length c45) 47 1 ((ms.map BS.val)++[Value.slice x43.a (fY x35.2.1[k].abs).length x43.c])::row (BS.val (⟨x43.a,x43.c,fY x35.2.1[k].abs⟩:BS)) 5 1 (aE (fY x35.2.1[k].abs))::ep fp ms::row (.slice x35.1.a (x35.2.1).length x35.1.c) 57 38 ((x35.2.1).flatMap af.list)::eG x35.2.2.1 x35.2.2.2::bE q sb p (some ⟨lp,0,none⟩) bp false::bm lp p eA t::bP t::cb.H y bp (DS.H p x26.1 (aF b3 (.cells (aM.mk W (ah.mk n h b pp) f2 f3 f4).cells 87 (0,0))::H))) w:=SB w hw;rw[show(ms++[(⟨x43.a,x43.c,fY x35.2.1[k].abs⟩:BS)]).map BS.val=(ms.map BS.val)++[Value.slice x43.a (fY x35.2.1[k].abs).length x43.c]from by simp only[Xi,Xt,X6]];exact ng h1
 obtain rfl:k=x35.2.1.length:=om;rw[XE]at hms;have hmlen:ms.length=x35.2.1.length:=ahe;rw[show(ms.map BS.val).length=ms.length from by simp];have hml30:∀x∈ms,x.l.length<=1000000:=fun x hx=>by
  have h1:x.l∈iA x35.2.1:=by rw[←hms];exact Xd.2 ⟨x,hx,rfl⟩
  unfold iA at h1;obtain⟨v,hv,hve⟩:=Xd.1 h1;have h2:=hzb.2.1 v hv;rw[←hve,jl];omega
 refine gG ?_;refine Za ?_;refine cu (bm lp p eA t::bP t::DS.H p x26.1 (row (.slice a7 ms.length c7) 47 1 (ms.map BS.val)::ep fp ms::bE q sb p (some ⟨lp,0,none⟩) bp false::cb.H y bp (aF b3 (.cells (aM.mk W (ah.mk n h b pp) f2 f3 f4).cells 87 (0,0))::H))) ?_;refine ze rfl (zc (Ml (lp:=lp) (p:=p) (pre:=eA) (t:=t) (s:=x26.1) h26.1 om hK rT hlv26 dc hsl hlast hm1 hnd hex2 (rs:=ms) om hml30 (by rw[hms];exact hzb.2.2) hnx) rfl (fun x53=>?_));refine aV (fun h53=>?_);rw[hms]at h53;refine cu (bE q sb p (some ⟨lp,0,none⟩) bp false::bm lp p eA x53.2.1::bP x53.2.1::cb.H y bp (DS.H p x53.1 (aF b3 (.cells (aM.mk W (ah.mk n h b pp) f2 f3 f4).cells 87 (0,0))::H))) ?_;refine ze rfl (zc (tz (q:=q) (sb:=sb) (p:=p) (lp:=lp) (bp:=bp) (fu:=false) (e:=x53.2.2)) rfl (fun x54=>gG ?_));refine yC ?_ ?_<;>intro h56 p56
 ·obtain⟨he0,-⟩|he4:=h53.2.symm
  · exact absurd he0 p56
  refine gG ?_;exact zX (⟨b3,sb,(decide (x53.2.2=4)||false),x53.2.1,x53.1,x53.2.2⟩:Nj) [_] results89 ⟨rfl,trivial⟩ rfl (aP (⟨h53.1.mono om (W8 _),.inl ⟨he4,rfl⟩⟩) SB)
 obtain he4|⟨he53,hlv53,hp53,hq53,hc53,q1,q2,q3⟩:=h53.2
 · exact absurd he4 om
 rw[show(decide (x53.2.2=4)||false)=false from by rw[he53];rfl];refine gG ?_;refine cu (DS.H p x53.1 (bE q sb p (some ⟨lp,0,none⟩) bp false::bm lp p eA x53.2.1::bP x53.2.1::cb.H y bp (aF b3 (.cells (aM.mk W (ah.mk n h b pp) f2 f3 f4).cells 87 (0,0))::H))) ?_;refine ze rfl (zc (FL (p:=p) (s:=x53.1)) rfl (fun x62=>gG ?_));refine yC ?_ ?_<;>intro h62 p62
 ·rw[hlv53.down]at h62;cases h62
 refine gG ?_;refine abz ?_;exact zX (⟨b3,b3,false,x53.2.1,x53.1,0⟩:Nj) [_] results89 ⟨rfl,trivial⟩ rfl (aP (⟨h53.1.mono om (W8 _),.inr ⟨rfl,rfl,rfl,hb65,hlv53,hp53,hq53,x35.2.1,x35.2.2.2,h35,by rw[hc53,hc26],q1,by rw[q2];unfold iA;rw[WZ],q3⟩⟩) SB)
end
end Go.Proofs.YtmbfimckmfnnjaaGreatDoor
