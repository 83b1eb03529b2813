/- Steps of the proof of a law. -/
import Derived.Test.YtmbfimckmfnnjaaGreatDoorQ29
import Derived.Test.YtmbfimckmfnnjaaGreatDoorQ36
import Derived.Test.YtmbfimckmfnnjaaGreatDoorQ37
import Derived.Test.YtmbfimckmfnnjaaGreatDoorQ38
set_option maxRecDepth 100000
set_option maxHeartbeats 1000000
set_option linter.unusedSimpArgs false
set_option linter.unusedVariables false
namespace Go.Proofs.YtmbfimckmfnnjaaGreatDoor
open Go.RowKit Go.Sx Go.Proofs.Tryz
section
structure iB where
 n:Int
 hash:Vector UInt8 32
 batch:List UInt8
 parts:List (List UInt8)
def ah.abs(x:ah):iB:=⟨x.n,x.hash,x.batch.l,x.parts.ls.map BS.l⟩
instance ah.deep:Deep ah:=⟨fun m=>⟨[m.batch],[m.parts],[]⟩⟩
variable {w0:World} {H:List SA} {x:ah} {a:Option Addr} {c:Nat}
instance (priority:=low) dT.Ip[h:Rd w0 H x]:dT w0 H (.slice x.batch.a x.batch.l.length x.batch.c) x.batch.l:=⟨h.ok.b x.batch (by simp[Deep.leads])⟩
instance (priority:=low) gy.Ip[h:Rd w0 H x]:gy w0 H (.slice x.parts.a x.parts.ls.length x.parts.c) 1 (x.parts.ls.map BS.val):=⟨h.ok.p x.parts (by simp[Deep.leads])⟩
instance (priority:=low) ju.Ip[h:Rd w0 H x]:ju w0 H x.parts.ls:=⟨h.ok.e x.parts (by simp[Deep.leads])⟩
theorem St.FK{w:World}{m:ah}{fp:List Nat}{e e2:TypeId}(h:St w0 (row (.slice m.parts.a m.parts.ls.length m.parts.c) e 1 (m.parts.ls.map BS.val)::ep fp m.parts.ls::row (.slice m.batch.a m.batch.l.length m.batch.c) e2 1 (aE m.batch.l)::H) w):∃fp,St w0 (dX fp (Deep.leads m)::H) w:=by
 have h1:St w0 (ep fp m.parts.ls::row (.slice m.parts.a m.parts.ls.length m.parts.c) e 1 (m.parts.ls.map BS.val)::row (.slice m.batch.a m.batch.l.length m.batch.c) e2 1 (aE m.batch.l)::H) w:=cJ.st inferInstance w h;have h2:=St.rD h1;have h3:St w0 (row (.slice m.parts.a m.parts.ls.length m.parts.c) e 1 (m.parts.ls.map BS.val)::dX fp ⟨m.parts.ls,[],[]⟩::row (.slice m.batch.a m.batch.l.length m.batch.c) e2 1 (aE m.batch.l)::H) w:=cJ.st inferInstance w h2;have h4:=h3.Pv;have h5:St w0 (row (.slice m.batch.a m.batch.l.length m.batch.c) e2 1 (aE m.batch.l)::dX (bQ (.slice m.parts.a m.parts.ls.length m.parts.c)++fp) ⟨[],[m.parts],[]⟩::H) w:=cJ.st inferInstance w h4;exact⟨_,h5.KV.j3⟩
theorem JF{l:List UInt8}[hr:dT w0 H (.slice a l.length c) l](hl:l.length<=4294967296):CT prog w0 (H) 182 [.slice a l.length c] (α:=AC) (fun x=> .slice x.a l.length x.c) (fun x=>row (.slice x.a l.length x.c) 5 1 (aE l)::H):=by
 refine al func182 rfl ntmps182 rfl (gG ?_);refine ze rfl (zc (jc hl) rfl (fun x4=>gG ?_));exact zX x4 [_] results182 ⟨rfl,trivial⟩ rfl SB
theorem MB{ls:List BS}[rc:gy w0 H (.slice a ls.length c) 1 (ls.map BS.val)][rce:ju w0 H ls](hn:ls.length<=100000)(hl:∀x∈ls,x.l.length<=4294967296):CT prog w0 (H) 181 [.slice a ls.length c,.func (.func 182) #[] #[]] (α:=(AC×List BS)×List Nat) (fun y=> .slice y.1.1.a y.1.2.length y.1.1.c) (fun y=>pu (y.1.2.map BS.l=ls.map BS.l)::row (.slice y.1.1.a (y.1.2).length y.1.1.c) 47 1 ((y.1.2).map BS.val)::ep y.2 y.1.2::H):=by
 refine aif ?_;refine bH [5,7,10,11,12,13,14,15,16,17,18,19,20] [10,5] (fun us H'=>∃(k:Nat)(a5:Option Addr)(c5:Nat)(ms:List BS)(fp:List Nat),us=[.int .i64 (k:Int),.slice a5 (ms.map BS.val).length c5]/\row (.slice a5 (ms.map BS.val).length c5) 47 1 (ms.map BS.val)::ep fp ms::H=H'/\k<=ls.length/\(ms.map BS.l=(ls.map BS.l).take k)) (fun us=>match us with| .int _ i::_=>ls.length-i.toNat|_=>0) ⟨0,none,0,[],[],rfl,rfl,om,rfl⟩ (fun w hw=>((SB w hw:St w0 H w).pO).AK 47) ?_;rintro τ0 _ _ ⟨k,a5,c5,ms,fp,rfl,rfl,hk0,hms⟩ _;have hml:ms.length=k:=aex;refine gG ?_;refine yC ?_ ?_<;>intro h11 p11
 ·have hk:k<ls.length:=om;have hk':(k:Int)<ls.length:=om;refine gG ?_;refine ZK ?_;refine ze rfl (uL (argv:=[_]) (caps:=[]) (JF (hl _ (W1 hk))) rfl rfl (fun x17=>?_));refine ze rfl (dH (v:= .slice _ _ _) rfl (fun a18 c18=>?_));refine ze rfl (js (sv:= .slice _ _ _) (xv:= .slice _ _ _) rfl rfl agm so rfl (fun a19 c19=>gA ?_));apply bW
  case ha=>exact aff
  case hI=>exact⟨k+1,a19,c19,ms++[(⟨x17.a,x17.c,ls[k].l⟩:BS)],bQ (.slice x17.a ls[k].l.length x17.c)++fp,by simp only[Xi,Xt,X6];rfl,rfl,om,by rw[fR _ _ abf,Xi,hms];simp⟩
  case hm=>exact afK
  case hH=>exact fun w hw=>by
                have h1:St w0 (row (.slice a19 ((ms.map BS.val)++[Value.slice x17.a ls[k].l.length x17.c]).length c19) 47 1 ((ms.map BS.val)++[Value.slice x17.a ls[k].l.length x17.c])::row (BS.val (⟨x17.a,x17.c,ls[k].l⟩:BS)) 5 1 (aE ls[k].l)::ep fp ms::H) w:=SB w hw;rw[show(ms++[(⟨x17.a,x17.c,ls[k].l⟩:BS)]).map BS.val=(ms.map BS.val)++[Value.slice x17.a ls[k].l.length x17.c]from by simp only[Xi,Xt,X6]];exact ng h1
 obtain rfl:k=ls.length:=om;rw[W7 sm]at hms;rw[show(ms.map BS.val).length=ms.length from by simp];refine gG ?_;refine Za ?_;exact zX ((⟨a5,c5⟩,ms),fp) [_] results181 ⟨rfl,trivial⟩ rfl (fun w hw=>(SB w hw:St w0 (row (.slice a5 ms.length c5) 47 1 (ms.map BS.val)::ep fp ms::H) w).aC hms)
theorem wN{ls:List BS}[rc:gy w0 H (.slice a ls.length c) 1 (ls.map BS.val)][rce:ju w0 H ls](hn:ls.length<=100000)(hl:∀x∈ls,x.l.length<=4294967296):CT prog w0 (H) 107 [.slice a ls.length c] (α:=(AC×List BS)×List Nat) (fun y=> .slice y.1.1.a y.1.2.length y.1.1.c) (fun y=>pu (y.1.2.map BS.l=ls.map BS.l)::row (.slice y.1.1.a (y.1.2).length y.1.1.c) 47 1 ((y.1.2).map BS.val)::ep y.2 y.1.2::H):=by
 refine aih ?_;refine ze rfl (zc (MB hn hl) rfl (fun x4=>?_));refine aV (fun h4=>?_);refine gG ?_;exact zX x4 [_] results107 ⟨rfl,trivial⟩ rfl (fun w hw=>(SB w hw:St w0 (row (.slice x4.1.1.a (x4.1.2).length x4.1.1.c) 47 1 ((x4.1.2).map BS.val)::ep x4.2 x4.1.2::H) w).aC h4)
theorem zu{n:Int}{h:Vector UInt8 32}{b:BS}{p:PS}[rb:dT w0 H (.slice b.a b.l.length b.c) b.l][rp:gy w0 H (.slice p.a p.ls.length p.c) 1 (p.ls.map BS.val)][re:ju w0 H p.ls](hb:b.l.length<=4294967296)(hp:p.ls.length<=100000)(he:∀x∈p.ls,x.l.length<=4294967296):CT prog w0 (H) 54 [.agg (ah.mk n h b p).cells] (α:=ah×List Nat) (fun y=> .agg y.1.cells) (fun y=>pu (y.1.abs=ah.abs (ah.mk n h b p))::dX y.2 (Deep.leads y.1)::H):=by
 refine aiy ?_;refine ze rfl (aZ rfl (fun b1=>?_));refine ze rfl (an (fun b2=>?_));refine zz (zx (kT [3,4,5,6,7,8,9,10] [] (fun us H'=>∃(ba pa:Option Addr)(bc pc:Nat)(ms:List BS)(fp:List Nat),us=[]/\(aF b1 (.cells (ah.mk n h ⟨ba,bc,b.l⟩ ⟨pa,pc,ms⟩).cells 50 (0,0))::aF b2 (.cells ah.zero.cells 50 (0,0))::row (.slice pa ms.length pc) 47 1 (ms.map BS.val)::ep fp ms::row (.slice ba b.l.length bc) 5 1 (aE b.l)::H)=H'/\ms.map BS.l=p.ls.map BS.l) ?_ ?_))
 ·refine jC H kr SB (bz (i:=0) kr rfl kr kr (zf 33 rfl rfl) rfl (bz (i:=3) kr rfl kr kr (zf 34 rfl rfl) rfl ?_));refine nn (i:=1) (j:=4) kr ?_ ?_
  ·refine aaG ?_;refine nn (i:=2) (j:=4) kr ?_ ?_
   ·refine cq rfl rfl (zc (jc hb) rfl (fun x5=>⟨SB,?_⟩));refine acZ ?_;refine aaG ?_;refine aei ?_;refine ad9 ?_;refine cq rfl rfl (zc (wN hp he) rfl (fun x8=>⟨SB,?_⟩));refine gH (fun h8=>?_);refine ab2 ?_;refine aaN ?_;refine aej ?_;refine adl ?_;refine aaN ?_;refine eH kr ?_;refine dU _ zA (⟨x5.a,x8.1.1.a,x5.c,x8.1.1.c,x8.1.2,x8.2,rfl,rfl,h8⟩) (SB)
   refine aaG ?_;refine ah4 ?_;refine cq rfl rfl (zc (jc hb) rfl (fun x5=>⟨SB,?_⟩));refine aei ?_;refine ad9 ?_;refine cq rfl rfl (zc (wN hp he) rfl (fun x8=>⟨SB,?_⟩));refine gH (fun h8=>?_);refine ab2 ?_;refine aaN ?_;refine aej ?_;refine adl ?_;refine aaN ?_;refine eH kr ?_;refine dU _ zA (⟨x5.a,x8.1.1.a,x5.c,x8.1.1.c,x8.1.2,x8.2,rfl,rfl,h8⟩) (SB)
  refine aaG ?_;refine cd (i:=1) kr ?_;refine aaG ?_;refine ah4 ?_;refine cq rfl rfl (zc (jc hb) rfl (fun x5=>⟨SB,?_⟩));refine aei ?_;refine ad9 ?_;refine cq rfl rfl (zc (wN hp he) rfl (fun x8=>⟨SB,?_⟩));refine gH (fun h8=>?_);refine ab2 ?_;refine aaN ?_;refine aej ?_;refine adl ?_;refine aaN ?_;refine eH kr ?_;refine dU _ zA (⟨x5.a,x8.1.1.a,x5.c,x8.1.1.c,x8.1.2,x8.2,rfl,rfl,h8⟩) (SB)
 rintro τc0 _ _ ⟨ba,pa,bc,pc,ms,fp,-,rfl,hms⟩ _;refine gG ?_;refine aag ?_;refine sI (H':=fun fp=>dX fp (Deep.leads (ah.mk n h ⟨ba,bc,b.l⟩ ⟨pa,pc,ms⟩))::aF b2 (.cells (ah.mk n h ⟨ba,bc,b.l⟩ ⟨pa,pc,ms⟩).cells 50 (0,0))::H) (fun w hw=>St.FK (m:=(ah.mk n h ⟨ba,bc,b.l⟩ ⟨pa,pc,ms⟩)) (SB w hw:St w0 (row (.slice pa ms.length pc) 47 1 (ms.map BS.val)::ep fp ms::row (.slice ba b.l.length bc) 5 1 (aE b.l)::aF b2 (.cells (ah.mk n h ⟨ba,bc,b.l⟩ ⟨pa,pc,ms⟩).cells 50 (0,0))::H) w)) (fun fp2=>?_);exact zX ((ah.mk n h ⟨ba,bc,b.l⟩ ⟨pa,pc,ms⟩),fp2) [_] results54 ⟨⟨_,rfl,ak rfl⟩,trivial⟩ rfl (aP (by simp only[ah.abs,hms]) SB)
end
section
variable {l zs:List af} {y:cb} {w0:World} {H:List SA}
theorem mem_keys{es:List (iK bG af)}{a:bG}:a∈es.map (·.k)↔(eu es a).isSome=true:=by
 simp only[eu,Option.isSome_map,List.find?_isSome,Xd,decide_eq_true_eq]
 constructor
 · rintro⟨e,he,rfl⟩;exact⟨e,he,rfl⟩
 · rintro⟨e,he,h⟩;exact⟨e,he,h.symm⟩
theorem nX{α:Type}[DecidableEq α]:∀(l m:List α),l.Nodup->(∀x∈l,x∈m)->l.length<=m.length
 |[],_,_,_=>Xv _
 |x::l,m,hn,h=>by
   obtain⟨h1,h2⟩:=YB.1 hn;have hx:=h x sm;have:=nX l (m.erase x) h2 (fun y hy=>(List.mem_erase_of_ne (by rintro rfl;exact h1 hy)).2 (h y (by simp[hy])));rw[List.length_erase_of_mem hx]at this;have:=List.length_pos_of_mem hx;simp only[Xq];omega
theorem sP(h:ir y.abs l)(a:bG):(eu y.es a).isSome=(cj l a).isSome:=by
 have:=h.wrote a;rw[cb.get]at this;exact map_some this
theorem keys_in(h:ir y.abs l)(hc:qQ l):∀e∈y.es,e.k∈j8:=fun e he=>by
 refine pX hc ?_;rw[←sP h];exact mem_keys.1 (Xd.2 ⟨e,he,rfl⟩)
theorem wP(ho:y.Ok)(h:ir y.abs l):y.es.length<=l.length:=by
 have:=nX (y.es.map (·.k)) (l.map fun v=>(⟨v.view,v.dZ⟩:bG)) ho.ic.keys (fun a ha=>by
   have h1:=mem_keys.1 ha;rw[sP h]at h1;obtain⟨v,hv⟩:=XH.1 h1;obtain⟨hm,-,-,h4,h5⟩:=jn hv;exact Xd.2 ⟨v,hm,by rw[h4,h5]⟩)
 simpa using this
theorem Cz{ds:List af}(ho:y.Ok)(h:ir y.abs l)(hc:qQ l)(ha:rB y zs ds):zs.map af.abs=(fg l).map af.abs:=by
 obtain⟨ks,hp,hs,hz⟩:=ha.keys;rw[hz,fg,Xi,Xi];have hent:y.k.cO=decide (0<=(fX l).1):=h.LL;have e1:s7 y.k.cO y.k.now=kV l:=by
   unfold s7 kV;by_cases h0:0<=(fX l).1
   · have hn:=h.now (hent.trans (decide_eq_true h0))
     have hn:y.k.now=⟨(fX l).1,(fX l).2⟩:=hn;rw[if_pos h0,hent,decide_eq_true h0,if_pos rfl,hn]
   · rw[if_neg h0,hent,decide_eq_false h0,if_neg dc]
 have e2:ks.map (D3 y.es)=(j8.filterMap (cj l)).map af.abs:=by
   rw[←Et hc (Ba hp hs ho.ic.keys) (fun a=>by rw[hp.mem_iff,mem_keys,sP h]),Yo,Yo];refine YD fun x _=>?_;have:=h.wrote (tY x);rw[cb.get]at this;exact Il this
 have e3:(y.acc.map fun q=>q.2.abs).toList=(ig l).toList.map af.abs:=by
   have:(y.acc.map fun q=>q.2.abs)=(ig l).map af.abs:=h.acc;rw[this];cases ig l<;>rfl
 rw[e1,e2,e3]
theorem Fl{u:af}{vs:List af}(hb:u.batch=⟨none,0,[]⟩)(hc:u.cert=⟨none,0,[]⟩)(h:jF w0 H vs):jF w0 H (u::vs):=
 ⟨fun v hv=>by
   rcases Xg.1 hv with rfl|hv
   · rw[hb];exact⟨fun w hw=>⟨none,0,0,rfl,rfl,om,dc,fun h=>absurd h sm⟩⟩
   · exact h.b v hv,fun v hv=>by
   rcases Xg.1 hv with rfl|hv
   · rw[hc];exact⟨fun w hw=>⟨none,0,0,rfl,rfl,om,dc,fun h=>absurd h sm⟩⟩
   · exact h.c v hv,fun v hv=>by
   rcases Xg.1 hv with rfl|hv
   · rw[hc];exact⟨fun x hx=>by simp at hx⟩
   · exact h.e v hv⟩
theorem E0{ds:List af}{fp:List Nat}(ha:rB y zs ds):jF w0 (eG fp ds::H) zs:=
 Fx (Fl (u:=hU (y.k.now.view,y.k.now.dZ)) rfl rfl jF.own) (fun z hz=>by
   rcases ha.data z hz with h|h
   · rw[h];simp
   · exact Xa _ h)
theorem LZ(h:jF w0 H l):jF w0 H (fg l):=
 Fx (Fl (u:=hU (fX l)) rfl rfl h) (fun z hz=>by
   rcases qV hz with⟨-,h⟩|⟨h,-⟩|⟨h,-⟩
   · rw[h];simp
   · exact Xa _ h
   · exact Xa _ h)
theorem uH(h:∀v∈l,ff v.abs):∀v∈fg l,ff v.abs:=fun v hv=>by
 rcases qV hv with⟨-,h1⟩|⟨h1,-⟩|⟨h1,-⟩
 · rw[h1];exact⟨by simp[hU,af.zero,af.abs],by simp[hU,af.zero,af.abs],by simp[hU,af.zero,af.abs]⟩
 · exact h v h1
 · exact h v h1
theorem JZ{us:List af}(h:zs.map af.abs=us.map af.abs)(k:Nat)(hk:k<zs.length)(hu:k<us.length):zs[k].abs=us[k].abs:=by
 have h1:(zs.map af.abs)[k]? =(us.map af.abs)[k]? :=by rw[h]
 rw[XZ,XZ,WW hk,WW hu]at h1;simpa using h1
end
section
variable {v:dm} {w0:World} {H:List SA} {p:Nat}
theorem D5(h:(cU v).2=0):(cU v).1=told v/\df v=true/\(told v).length<=65536/\v.cert.length<=16:=by
 unfold cU at h ⊢
 split at h
 · cases h
 · rename_i h1
   split at h
   · cases h
   · rename_i h2
     split at h
     · cases h
     · rename_i h3
       split at h
       · rename_i h4
         rw[if_neg h1,if_neg h2,if_neg h3,if_pos h4];exact⟨rfl,h4,om,om⟩
       · cases h
theorem FW(h:(cU v).2=0):ff v:=by
 obtain⟨-,-,h3,h4⟩:=D5 h;have h5:=yH (v:=v);exact⟨om,om,fun c hc=>by have:=h5.2 c hc;omega⟩
theorem xS(v:dm):(fY v).drop 1=(cU v).1:=rfl
theorem FZ(v:dm):(aE (fY v))[((0:Nat):Int).toNat]? =some (.int .u8 2):=rfl
theorem wo(v:dm):0<(fY v).length:=Nat.succ_pos _
def gb(us:List dm):fG:=us.foldl (fun b v=>(eX b v).1) fG.zero
theorem A6(us:List dm)(k:Nat)(hk:k<us.length):gb (us.take (k+1))=(eX (gb (us.take k)) us[k]).1:=by
 unfold gb;rw[Xf hk,X0];rfl
@[reducible] def bE(q sb p:Nat)(lo:Option Addr)(bp:Nat)(fu:Bool):SA:=aF q (.cells (bq.mk (some ⟨sb,0,none⟩) (some ⟨p,0,none⟩) lo (some ⟨bp,0,none⟩) fu).cells 84 (0,0))
attribute [local irreducible] cv bL fW bY fq fH fY dS cU eX
theorem G9{q sb bp:Nat}{lo:Option Addr}{fu:Bool}{y:cb}(hy:y.Ok){b:BS}[rb:dT w0 H (.slice b.a b.l.length b.c) b.l](hb:b.l=fY v)(hput:(cU v).2=0):CT prog w0 (bE q sb p lo bp fu::cb.H y bp H) 27 [.pointer (some ⟨q,0,none⟩),.slice b.a b.l.length b.c] (α:=cb) (fun _=> .tuple #[]) (fun z=>pu (z.Ok/\z.abs=(eX y.abs v).1)::bE q sb p lo bp fu::cb.H z bp H):=by
 obtain⟨hpt,hfm,htl,hcl⟩:=D5 hput;have hbl:0<b.l.length:=by rw[hb];exact wo v
 refine aiF ?_;refine yC ?_ ?_<;>intro h10 p10
 ·exact absurd p10 (by have:=wo v;rw[←hb]at this;omega)
 refine gG ?_;refine zq (bj rfl rfl om (by rw[hb];simpa using wo v)) rfl (zq (bC (.int .u8 2) rfl (by rw[hb];exact FZ v)) rfl ?_);refine gG ?_;refine Ze ?_;refine zq (ki 1 rfl rfl om) rfl ?_;refine ze rfl (zc (OJ (l:=b.l.drop 1) (v:=v) (by rw[hb,xS];exact hpt) hfm (by rw[hb,xS,hpt];exact htl) hcl) rfl (fun x19=>?_));refine aV (fun h19=>?_);refine gG ?_;refine ze rfl (an (fun b4=>?_));refine aag ?_;refine yT ?_;refine dw (aF b4 (.cells x19.1.cells 57 (0,0))::bE q sb p lo bp fu::H) [(0,true),(1,true),(2,true),(3,true),(4,true),(5,false)] (fun hns0=>?_);refine gA ?_;have rvs:jF w0 (eG x19.2 [x19.1]::H) [x19.1]:=jF.own;have rbz:=rvs.b _ (Xb.2 rfl);have rcz:=rvs.c _ (Xb.2 rfl);have rez:=rvs.e _ (Xb.2 rfl);refine gX (fun w hw=>(SB w hw:St w0 (cb.H y bp (aF b4 (.cells x19.1.cells 57 (0,0))::bE q sb p lo bp fu::eG x19.2 [x19.1]::H)) w)) ?_;refine cX rfl rfl (zc (Kq (p:=bp) (y:=y) (v:=x19.1) hy (by rw[h19];exact FW hput)) rfl (fun x29=>⟨SB,?_⟩));refine im (fun h29=>?_);rw[h19]at h29;refine gA ?_;exact zX x29 [] results27 trivial rfl (fun w hw=>(SB w hw:St w0 (bE q sb p lo bp fu::cb.H x29 bp H) w).aC h29)
theorem L8{s:DS}{M K:Nat}(hok:s.Ok M K)(hM:M<=1000000)(hK:K<=1000000000)(he:eZ s.e2 jJ=false):CT prog w0 (DS.H p s H) 24 [.pointer (some ⟨p,0,none⟩),.string jJ] (α:=Unit) (fun _=> .tuple #[.slice none 0 0,.int .i64 13]) (fun _=>DS.H p s H):=by
 refine afd ?_;refine ze rfl (zc (uG) rfl (fun x13=>gG ?_));refine Zb ?_;refine ze rfl (zc (uz (p:=p) (s:=s) hok hM om (nm:=jJ)) rfl (fun x20=>?_));rw[he,if_neg dc];refine gG ?_;refine Ze ?_;exact agR
theorem HZ{q sb bp:Nat}{lo:Option Addr}{fu:Bool}{y:cb}(ho:y.Ok)(hin:∀e∈y.es,e.k∈j8)(hne:y.es.length<=1000):CT prog w0 (bE q sb p lo bp fu::cb.H y bp H) 45 [.pointer (some ⟨q,0,none⟩)] (α:=AC×List af×List Nat×List af) (fun z=> .slice z.1.a z.2.1.length z.1.c) (fun z=>pu (rB y z.2.1 z.2.2.2)::row (.slice z.1.a (z.2.1).length z.1.c) 57 38 ((z.2.1).flatMap af.list)::eG z.2.2.1 z.2.2.2::bE q sb p lo bp fu::cb.H y bp H):=by
 refine al func45 rfl ntmps45 rfl (gG ?_);refine Zn ?_;refine Zb ?_;refine cu (cb.H y bp (bE q sb p lo bp fu::H)) ?_;refine ze rfl (zc (ML (p:=bp) (y:=y) ho hin hne) rfl (fun x9=>?_));refine aV (fun h9=>?_);refine gG ?_;exact zX x9 [_] results45 ⟨rfl,trivial⟩ rfl (fun w hw=>(SB w hw:St w0 (row (.slice x9.1.a (x9.2.1).length x9.1.c) 57 38 ((x9.2.1).flatMap af.list)::eG x9.2.2.1 x9.2.2.2::bE q sb p lo bp fu::cb.H y bp H) w).aC h9)
end
end Go.Proofs.YtmbfimckmfnnjaaGreatDoor
