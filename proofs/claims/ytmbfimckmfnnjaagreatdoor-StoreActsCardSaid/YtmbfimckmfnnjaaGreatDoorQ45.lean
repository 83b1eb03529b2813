/- Steps of the proof of a law. -/
import Derived.Test.YtmbfimckmfnnjaaGreatDoorQ44
set_option maxRecDepth 100000
set_option maxHeartbeats 1000000
set_option linter.unusedSimpArgs false
set_option linter.unusedVariables false
namespace Go.Proofs.YtmbfimckmfnnjaaGreatDoor
open Go.RowKit Go.Sx Go.Proofs.Tryz
section
open Go.Shelf
variable {w0:World} {H:List SA} {s:DS} {all:List (List UInt8)}
theorem Ej{P:Program}{H1:List SA}{f:FuncId}{args:List Value}{α β:Type}{val:α->Value}{val':β->Value}{H':α->List SA}{H2:β->List SA}(g:α->β)(h:CT P w0 H1 f args val H')(hs:∀w,St w0 H w->St w0 H1 w)(hv:∀x,val x=val' (g x))(ht:∀x w,St w0 (H' x) w->St w0 (H2 (g x)) w):CT P w0 H f args val' H2:=fun w hw=>
 (h w (hs w hw)).mono fun _ _ ⟨x,he,hx⟩=>⟨g x,he.trans (congrArg _ (hv x)),ht x _ hx⟩
def zH(w0:World):Prop:=∃ev:Value,w0.cell? ⟨nY.g 15,0,none⟩=some ev/\(ev= .nilIface∨∃te pe,ev= .iface te pe)
theorem LX(hlay:zH w0){s:ByteArray}(hs:s.size<=1000000)(h:Lib.atoiAll s.data.toList= Lib.NumEnd.syntax):CT prog w0 H 122 [.string s] (α:=Nat) (fun N=> .tuple #[.int .i64 0,.iface (nY.t 168) (.pointer (some ⟨N,0,none⟩))]) (fun _=>H):=fun w hw=>by
 obtain⟨ev,hv,hev⟩:=hlay;refine(Any.strconv_Atoi_syntax Kl s om h ev w ((hw.below.cell (show(⟨nY.g 15,0,none⟩:Addr).block<w0.heap.size from Lib.lt_of_cell hv)).trans hv) hev).mono ?_;rintro e w' ⟨N,rfl,-,-,hb⟩;exact⟨N,rfl,St.later hw hb⟩
theorem Nr:Lib.hasPrefix jJ.data.toList (eA++mT).data.toList=false:=dc
theorem Me:Lib.trimPrefix jJ.data.toList (eA++mT).data.toList=jJ.data.toList:=dc
theorem Mv:Lib.atoiAll (⟨jJ.data.toList.toArray⟩:ByteArray).data.toList= Lib.NumEnd.syntax:=adv
theorem G0(hlay:zH w0):CT prog w0 (H) 68 [.string eA,.string jJ] (α:=Unit) (fun _=> .int .i64 0) (fun _=>H):=by
 refine aix ?_;refine zq (ke (v:= .string (eA++mT)) rfl rfl (pV (b:=mT) dc)) rfl ?_;refine ze rfl (zc (MS (s:=jJ) (p:=eA++mT)) rfl (fun x13=>?_));rw[Me,Nr];refine gG ?_;refine ze rfl (zc (LX hlay (s:=⟨jJ.data.toList.toArray⟩) dc Mv) rfl (fun x18=>gG ?_));refine Zc ?_;exact ahn
def LP(nm:ByteArray):Nat:=if nm=jJ then 0 else Pz eA nm
theorem AB:LP jJ=0:=if_pos rfl
theorem wD{n:Nat}(hn:n<100):LP (fW eA n)=n:=by unfold LP;rw[if_neg (qn n),Ns hn]
theorem uM{es:FM}{k:ByteArray}{c:Nat}(h:k∈bS es)(hg:eQ es c):cont es k≠none:=fun h0=>by
 obtain⟨e,he,hk⟩:=Xd.1 ((ka es).mem_iff.1 h);unfold cont at h0;rw[←hk]at h0;exact sJ he (by simpa using h0)
structure uf(s:DS)(av:List Nat)(cf:Nat->List UInt8)(all:List (List UInt8)):Prop where
 perm:(kU LP (bS s.e2)).Perm av
 OC:∀e∈s.e2,e.k.size<=maxLen
 Ph:∀nm∈bS s.e2,nm=jJ∨∃n,1<=n/\n<100/\nm=fW eA n
 H7:(bS s.e2).length<=1000
 uR:av.Pairwise (· < ·)
 lt:∀n∈av,n<100
 file:∀n∈av,cont s.e2 (fW eA n)=some (cf n)
 size:∀n∈av,(cf n).length<=2000000
 K5:∀k,(kB cf (av.take k) jV).length<=1000000
 whole:∀k (hk:k<av.length),(eh (cf av[k]) (eF cf (av.take k) jV).bg (eF cf (av.take k) jV).nx).2.1=(cf av[k]).length
 dB:kB cf av jV=all
theorem Ei{l:List ByteArray}(hn:l.Nodup)(h:∀nm∈l,nm=jJ∨∃n,1<=n/\n<100/\nm=fW eA n):(kU LP l).Nodup:=by
 unfold kU;show((l.map LP).filter _).Pairwise _;rw[List.pairwise_filter,Y4];refine List.Pairwise.imp_of_mem (fun{a b} ha hb hab h1 h2 he=>?_) hn;rcases h a ha with rfl|⟨n,n1,n2,rfl⟩
 · rw[AB]at h1;exact absurd h1 dc
 rcases h b hb with rfl|⟨m,m1,m2,rfl⟩
 · rw[AB]at h2;exact absurd h2 dc
 rw[wD n2,wD m2]at he;exact hab (by rw[he])
theorem rY.MQ{t:LS}{so:Option (List UInt8)}{M:Nat}(h:rY s t so all)(hok:s.Ok M 2000000)(hl:bY t.av<100)(hL:all.length<=5000)(hs:∀l∈all,l.length<=65536)(hsl:t.av.length<=900)(hnx:t.nx<=1000000):∃cf,uf s t.av cf all:=by
 obtain⟨fs,rc,g⟩:=h.log;obtain⟨a,ha,hch⟩:=g.chain;have hlt:∀n∈t.av,n<100:=fun n hn=>by have:=(g.Aq n hn).2;omega
 have hf:∀n∈t.av,cont s.e2 (fW eA n)=some (bL (fs n) (rc n)):=fun n hn=>by
   have h1:=g.file n hn;rw[show ij (cont s.e2) (fW eA n)=cont s.e2 (fW eA n)from by unfold ij;exact if_neg (qn n),show(if n=bY t.av then([]:List UInt8)else[])=[]from by split<;>rfl,Xn]at h1;exact h1
 have hnum:∀nm∈bS s.e2,nm=jJ∨∃n,1<=n/\n<100/\nm=fW eA n:=fun nm hm=>by
   by_cases hq:nm=jJ
   · exact .inl hq
   · obtain⟨n,hn,he⟩:=g.keys nm aik
     exact .inr ⟨n,(g.Aq n hn).1,hlt n hn,he⟩
 have hnd:(bS s.e2).Nodup:=(ka s.e2).nodup_iff.2 hok.gR.keys;have hmem:∀n∈t.av,fW eA n∈bS s.e2:=fun n hn=>by
   have h1:=hf n hn;unfold cont at h1;obtain⟨x,hx1,-⟩:=Yf.1 h1;obtain⟨e,he,hk,-⟩:=lQ hx1;exact(ka s.e2).mem_iff.2 (Xd.2 ⟨e,he,hk⟩)
 have hrl:∀n∈t.av,∀l∈rc n,l.length<=65536:=fun n hn l hl2=>hs l (by rw[g.K5];exact Y7.2 ⟨n,hn,hl2⟩);have hcf:∀n∈t.av,bL (fs n) (rc n)=bL (fs n) (rc n)++[]/\fl []=none:=fun n _=>⟨(Xn _).symm,nj⟩;have hfold:=fun k=>Li (cf:=fun n=>bL (fs n) (rc n)) (tl:=fun _=>[]) hch ha om hcf hrl k;refine⟨fun n=>bL (fs n) (rc n),(List.perm_ext_iff_of_nodup (Ei hnd hnum) (g.uR.imp fun h=>Nat.ne_of_lt h)).2 fun n=>⟨fun hn=>?_,fun hn=>?_⟩,fun e he=>?_,hnum,?_,g.uR,hlt,hf,fun n hn=>?_,fun k=>?_,fun k hk=>(hfold k).2 hk,?_⟩
 · unfold kU at hn
   obtain⟨h1,h2⟩:=Yg.1 hn;obtain⟨nm,h3,h4⟩:=Xd.1 h1;rcases hnum nm h3 with rfl|⟨m,m1,m2,rfl⟩
   · rw[AB]at h4;rw[←h4]at h2;exact absurd h2 dc
   · rw[wD m2]at h4
     subst h4;obtain⟨j,hj,he⟩:=g.keys (fW eA m) (by unfold ij;rw[if_neg (qn m)];exact uM h3 hok.gR);rw[mb m2 (hlt j hj) he];exact hj
 · unfold kU
   exact Yg.2 ⟨Xd.2 ⟨_,hmem n hn,wD (hlt n hn)⟩,by have:=(g.Aq n hn).1;simp;omega⟩
 · have hm:e.k∈bS s.e2:=(ka s.e2).mem_iff.2 (Xd.2 ⟨e,he,rfl⟩)
   rcases hnum e.k hm with h1|⟨n,-,hn2,hk⟩
   · rw[h1];unfold maxLen;decide
   · have h1:=Cp (pre:=eA) n hn2
     rw[hk];have h2:eA.size=3:=rfl;unfold maxLen;omega
 · have h1:(bS s.e2).length<=(jJ::t.av.map (fW eA)).length:=nX _ _ hnd (fun nm hm=>by
     by_cases hq:nm=jJ
     · rw[hq];exact XF ..
     · obtain⟨n,hn,he⟩:=g.keys nm aik
       exact Xa _ (Xd.2 ⟨n,hn,he.symm⟩))
   rw[Xq,WZ]at h1;omega
 · have h1:=hf n hn
   unfold cont at h1;obtain⟨x,hx1,hx2⟩:=Yf.1 h1;obtain⟨e,he,hk,hv⟩:=lQ hx1;rw[←hx2,←hv];exact hok.len _ (hok.oH e he)
 · rw[(hfold k).1]
   have h1:((t.av.take k).flatMap rc).length<=(t.av.flatMap rc).length:=by
     conv=>rhs;rw[←XC k t.av,Yb,WX]
     omega
   rw[←g.K5]at h1;omega
 · have h1:=(hfold t.av.length).1
   rw[XE]at h1;rw[h1,g.K5]
theorem uf.num{av:List Nat}{cf:Nat->List UInt8}(P:uf s av cf all)(hlay:zH w0):∀nm∈bS s.e2,∀H2:List SA,CT prog w0 H2 68 [.string eA,.string nm] (α:=Unit) (fun _=> .int .i64 (LP nm:Int)) (fun _=>H2):=fun nm hm H2=>by
 rcases P.Ph nm hm with rfl|⟨n,h1,hn,rfl⟩
 · rw[AB];exact G0 hlay
 · rw[wD hn];exact JD dc h1 hn
theorem uf.opened{av:List Nat}{cf:Nat->List UInt8}(P:uf s av cf all){M K:Nat}{y:Mk}(h:IC eA s cf av M K y):y.s.Ok (M+1100) K/\y.e=0/\y.pt=some ⟨y.lp,0,none⟩/\y.s=s/\y.all.map BS.l=all:=by
 obtain⟨h0,⟨-,-,k,hk,hlt⟩|⟨h1,h2,⟨-,h3,-,h4⟩|⟨k,hk,-,hlt,-⟩⟩⟩:=h
 · rw[P.whole k hk]at hlt;exact absurd hlt (Nat.lt_irrefl _)
 · exact⟨h0,h1,h2,h3,by rw[h4,P.dB]⟩
 · rw[P.whole k hk]at hlt;exact absurd hlt (Nat.lt_irrefl _)
end
section
abbrev ly:=dm ⊕ iB
def wS:ly->List UInt8
 | .inl v=>fY v
 | .inr x=>gZ x
def ia(l:List ly):List dm:=l.filterMap fun r=>match r with| .inl v=>some v| .inr _=>none
def eN(l:List ly):List iB:=l.filterMap fun r=>match r with| .inl _=>none| .inr x=>some x
variable {w0:World} {H:List SA} {W:aj} {s:DS} {bo:Option (List UInt8)} {x0:iB} {p:Nat}
theorem CE(l:List ly)(v:dm):ia (l++[.inl v])=ia l++[v]:=by unfold ia;rw[XM];rfl
theorem Cx(l:List ly)(x:iB):ia (l++[.inr x])=ia l:=by unfold ia;rw[XM];exact Xn _
theorem Dg(l:List ly)(v:dm):eN (l++[.inl v])=eN l:=by unfold eN;rw[XM];exact Xn _
theorem C3(l:List ly)(x:iB):eN (l++[.inr x])=eN l++[x]:=by unfold eN;rw[XM];rfl
theorem wT(l:List ly):(eN l).length<=l.length:=X1 _ _
theorem tG:gb (ia [])=fG.zero:=rfl
theorem sC(us:List dm)(v:dm):gb (us++[v])=(eX (gb us) v).1:=by unfold gb;rw[X0];rfl
theorem Ni{n:Int}{xs ys:List iB}{x:iB}(h:Dn n (xs++x::ys)):dJ (n+xs.length) x=true:=by
 have:=h xs.length sm;simpa using this
theorem A7(l:List ly)(k:Nat)(hk:k<l.length){x:iB}(hx:l[k]= .inr x):eN l=eN (l.take k)++x::eN (l.drop (k+1)):=by
 have h1:l=l.take k++l[k]::l.drop (k+1):=by rw[←Xu hk,XC]
 conv=>lhs;rw[h1,hx]
 unfold eN;rw[XM];rfl
def Oq(z:du)(y:cb):ly->du×cb->Prop
 | .inl v,r=>r.1=z/\r.2.Ok/\r.2.abs=(eX y.abs v).1
 | .inr x,r=>r.2=y/\O0 z x r.1
theorem SI:dT w0 H (.slice none ([]:List UInt8).length 0) []:=⟨fun w hw=>⟨none,0,0,rfl,rfl,om,dc,fun h=>absurd h sm⟩⟩
theorem S9:gy w0 H (.slice none ([]:List BS).length 0) 1 (([]:List BS).map BS.val):=⟨fun w hw=>⟨none,0,0,rfl,rfl,om,dc,fun h=>absurd h sm⟩⟩
theorem Vw:ju w0 H ([]:List BS):=⟨fun x hx=>by simp at hx⟩
def zD:iB:=ah.zero.abs
attribute [local irreducible] cv bL fW bY fq fH fY iA dS cU eX bN jt wB eV gZ l9 lr fS fj dJ dY du.new cN gb bS kB eF
theorem yG{q sb bp:Nat}{lo:Option Addr}{fu:Bool}{y:cb}(hy:y.Ok){z:du}(hz:z.Ok)(hsl:0<=z.w.slot/\z.w.slot<=100000)(hls:z.aT.length<=1000)(hld:z.ds.length<=1000){b:BS}[rb:dT w0 H (.slice b.a b.l.length b.c) b.l]{r:ly}(hb:b.l=wS r)(hv:∀v,r= .inl v->(cU v).2=0)(hs:∀x,r= .inr x->ib x):CT prog w0 (bE q sb p lo bp fu::cb.H y bp (du.H z sb H)) 27 [.pointer (some ⟨q,0,none⟩),.slice b.a b.l.length b.c] (α:=du×cb) (fun _=> .tuple #[]) (fun x=>pu (Oq z y r x)::bE q sb p lo bp fu::cb.H x.2 bp (du.H x.1 sb H)):=by
 cases r with
 |inl v=>
   have rb2:dT w0 (du.H z sb H) (.slice b.a b.l.length b.c) b.l:=inferInstance;refine Ej (fun y'=>(z,y')) (G9 (H:=du.H z sb H) (q:=q) (sb:=sb) (p:=p) (bp:=bp) (lo:=lo) (fu:=fu) hy hb (hv v rfl)) (fun w hw=>hw) (fun _=>rfl) (fun x w hw=>?_);have h1:=hw.pure;exact hw.tail.aC ⟨rfl,h1⟩
 |inr x=>
   have rb2:dT w0 (cb.H y bp H) (.slice b.a b.l.length b.c) b.l:=inferInstance;refine Ej (fun z'=>(z',y)) (GH (H:=cb.H y bp H) (q:=q) (sb:=sb) (p:=p) (bp:=bp) (lo:=lo) (fu:=fu) hz hsl hls hld hb (hs x rfl)) (fun w hw=>cJ.st inferInstance w hw) (fun _=>rfl) (fun x' w hw=>?_);have h1:=hw.pure;exact(cJ.st inferInstance w hw.tail:St w0 (bE q sb p lo bp fu::cb.H y bp (du.H x' sb H)) w).aC ⟨rfl,h1⟩
theorem LO{M K:Nat}(hok:s.Ok M K)(hM:M<=1000000)(hK:K<=1000000000)(h:(bo=none/\eZ s.e2 jJ=false)∨∃t,bo=some t/\eZ s.e2 jJ=true/\(gl s.e2 jJ).l=fS t/\t.length<=65536):CT prog w0 (DS.H p s H) 24 [.pointer (some ⟨p,0,none⟩),.string jJ] (α:=AC) (fun y=> .tuple #[.slice y.a (bo.getD []).length y.c,.int .i64 (if bo.isSome=true then 0 else 13)]) (fun y=>row (.slice y.a (bo.getD []).length y.c) 5 1 (aE (bo.getD []))::DS.H p s H):=by
 rcases h with⟨rfl,h⟩|⟨t,rfl,h1,h2,h3⟩
 · exact Ej (fun _=>⟨none,0⟩) (L8 hok hM hK h) (fun w hw=>hw) (fun _=>rfl) (fun x w hw=>hw.cT 5 1)
 · exact Lu hok hM hK h1 h2 h3
theorem Mt(hg:ja W):CT prog w0 H 22 [.agg W.cells,.agg ah.zero.cells] (α:=(ah×List Nat)×AC) (fun y=> .agg (aM.mk W y.1.1 ⟨none,0,0⟩ ⟨y.2.a,1,y.2.c⟩ W.slot).cells) (fun y=>pu (y.1.1.abs=zD)::dX y.1.2 (Deep.leads y.1.1)::row (.slice y.2.a 1 y.2.c) 46 32 (aX (fH (wB W)))::H):=
 rj (n:=0) (h:=zeroV 32) (b:=⟨none,0,[]⟩) (p:=⟨none,0,[]⟩) (rb:=SI) (rp:=S9) (re:=Vw) hg sm sm (fun x hx=>by cases hx)
theorem qd:∀i:Fin 6,(0<=((mr 6)[i.val]).aG/\((mr 6)[i.val]).aG<256)/\(0<=((mr 6)[i.val]).seq/\((mr 6)[i.val]).seq<256)/\(0<=((mr 6)[i.val]).slot/\((mr 6)[i.val]).slot<256)/\(-9223372036854775808<=((mr 6)[i.val]).res.n/\((mr 6)[i.val]).res.n<=9223372036854775807):=adv
theorem EH(i:Fin 6):A9 ((mr 6)[i.val]):=⟨(qd i).1,(qd i).2.1,(qd i).2.2.1,(qd i).2.2.2⟩
theorem s6:lL (gJ 0 ((15:Nat):Int) 6):=
 ⟨dc,dc,⟨15,dc,rfl,nG⟩,⟨15,dc,rfl,nG⟩,fun i hi=>by simp[gJ,ax.zero,db],fun i hi _=>by simp[gJ,ax.zero],fun i hi=>EH ⟨i,hi⟩⟩
structure N3 where
 q:Nat
 sb:Nat
 bp:Nat
 lp:Nat
 t:LS
 s:DS
 y:cb
 z:du
def NQ(s:DS)(W:aj)(x0:iB)(dB:List ly)(cf:Nat->List UInt8)(m:List Nat)(M K:Nat)(r:N3):Prop:=
 r.s.Ok (M+1100) K/\r.s=s/\r.y.Ok/\r.y.abs=gb (ia dB)/\r.z.Is W x0 (eN dB)/\∃w:Mk,IC eA s cf m M K w/\w.s=r.s/\w.t=r.t
def tT(s:DS)(W:aj)(x0:iB)(bo:Option (List UInt8)):Prop:=
 (bo=none/\eZ s.e2 jJ=false/\W=(gJ 0 ((15:Nat):Int) 6)/\x0=zD)∨(bo=some (fj W x0)/\eZ s.e2 jJ=true/\(gl s.e2 jJ).l=fS (fj W x0)/\(fj W x0).length<=65536/\lL W/\ib x0/\(eV x0).length<=65536)
theorem tT.load(h:tT s W x0 bo):(bo=none/\eZ s.e2 jJ=false)∨∃t,bo=some t/\eZ s.e2 jJ=true/\(gl s.e2 jJ).l=fS t/\t.length<=65536:=by
 rcases h with⟨h1,h2,-⟩|⟨h1,h2,h3,h4,-⟩
 · exact .inl ⟨h1,h2⟩
 · exact .inr ⟨_,h1,h2,h3,h4⟩
theorem tT.fit(h:tT s W x0 bo):lL W/\ib x0:=by
 rcases h with⟨-,-,h1,h2⟩|⟨-,-,-,-,h1,h2,-⟩
 · rw[h1,h2];exact⟨s6,⟨dc,dc,dc,dc,fun c hc=>by cases hc⟩⟩
 · exact⟨h1,h2⟩
theorem BH{dB:List ly}{k:Nat}(hk:k<dB.length){y:cb}{z:du}(hy:y.Ok)(hya:y.abs=gb (ia (dB.take k)))(hz:z.Is W x0 (eN (dB.take k)))(hw:z.w.slot=W.slot+(eN (dB.take k)).length)(hrt:Dn W.slot (eN dB)){r:du×cb}(h:Oq z y dB[k] r):r.2.Ok/\r.2.abs=gb (ia (dB.take (k+1)))/\r.1.Is W x0 (eN (dB.take (k+1))):=by
 have ht:dB.take (k+1)=dB.take k++[dB[k]]:=Xf hk;rw[ht];generalize hr:dB[k]=q at h;cases q with
 |inl v=>
   obtain⟨h1,h2,h3⟩:=h;rw[CE,Dg,sC,h1];exact⟨h2,by rw[h3,hya],hz⟩
 |inr x=>
   obtain⟨h1,h2,h3⟩:=h;rw[Cx,C3,h1];have h4:=A7 dB k hk hr;rw[h4]at hrt;have h5:=Ni hrt;rw[←hw]at h5;rcases h3 with⟨-,h3⟩|⟨h3,-⟩
   · exact⟨hy,hya,hz.step h3 h2⟩
   · rw[h5]at h3;cases h3
theorem Dh{M K:Nat}(hok:s.Ok M K)(hM:M<=800000)(hK:K<=1000000000)(rT:2000000<=K)(hlv:Live s)(hlay:zH w0)(hB:tT s W x0 bo){m:List Nat}{cf:Nat->List UInt8}{dB:List ly}(P:uf s m cf (dB.map wS))(hput:∀v,.inl v∈dB->(cU v).2=0)(hfit:∀x,.inr x∈dB->ib x)(hrt:Dn W.slot (eN dB))(hrl:dB.length<=900):CT prog w0 (DS.H p s H) 8 [.pointer (some ⟨p,0,none⟩),.agg (aH.mk 0 ((15:Nat):Int)).cells] (α:=N3) (fun r=> .tuple #[.pointer (some ⟨r.q,0,none⟩),.int .i64 0]) (fun r=>pu (NQ s W x0 dB cf m M K r)::bE r.q r.sb p (some ⟨r.lp,0,none⟩) r.bp false::bm r.lp p eA r.t::bP r.t::cb.H r.y r.bp (DS.H p r.s (du.H r.z r.sb H))):=by
 refine aiL ?_;refine ze rfl (aZ rfl (fun b3=>gG ?_));refine Zm ?_;refine Zb ?_;refine ze rfl (zc (pZ dc) rfl (fun x18=>?_));rw[nG];refine gG ?_;refine Zb ?_;refine ze rfl (zc (OW) rfl (fun x21=>?_));refine af3 ?_;refine ze rfl (aZ rfl (fun b23=>gG ?_));refine ze rfl (zc (Fp) rfl (fun x25=>?_));refine aaC ?_;refine ze rfl (zc (Mt s6.ic) rfl (fun x27=>?_));refine aV (fun h27=>?_);refine ze rfl (an (fun b7=>?_));refine aag ?_;refine cu (DS.H p s (aF b7 (.cells (aM.mk (gJ 0 ((15:Nat):Int) 6) x27.1.1 ⟨none,0,0⟩ ⟨x27.2.a,1,x27.2.c⟩ ((gJ 0 ((15:Nat):Int) 6)).slot).cells 87 (0,0))::row (.slice x27.2.a 1 x27.2.c) 46 32 (aX (fH (wB (gJ 0 ((15:Nat):Int) 6))))::dX x27.1.2 (Deep.leads x27.1.1)::aF b23 (.cells (bq.mk none (some ⟨p,0,none⟩) none (some ⟨x21.1,0,none⟩) false).cells 84 (0,0))::cb.H (cb.made x21.2) x21.1 H)) ?_;refine ze rfl (zc (LO (p:=p) (s:=s) hok om hK hB.load) rfl (fun x30=>?_));refine zq (zm (.tuple _) rfl) rfl (zq (eo rfl) rfl (zq (eo rfl) rfl (zq (za (.slice _ _ _) rfl) rfl (zq (za (.int .i64 _) rfl) rfl (zz (zx (kT [9,33,34,35,36,37,38,39] [9] (fun us H'=>∃(u:ah)(da:Option Addr)(dc:Nat)(fp:List Nat)(e9:Int),us=[.int .i64 e9]/\(aF b7 (.cells (aM.mk W u ⟨none,0,0⟩ ⟨da,1,dc⟩ (W).slot).cells 87 (0,0))::row (.slice da 1 dc) 46 32 (aX (fH (wB W)))::dX fp (Deep.leads u)::aF b23 (.cells (bq.mk none (some ⟨p,0,none⟩) none (some ⟨x21.1,0,none⟩) false).cells 84 (0,0))::cb.H (cb.made x21.2) x21.1 (DS.H p s H))=H'/\u.abs=x0/\(e9=0∨e9=13)) ?_ ?_)))))))
 ·refine gG ?_;refine yC ?_ ?_<;>intro h34 p34
  ·obtain⟨hbn,-⟩|⟨hbs,-,-,-,hbw,hbx,hbl⟩:=hB
   · rw[hbn]at h34;exact absurd h34 dc
   refine gG ?_;refine ze rfl (zc (MA (l:=bo.getD []) (W:=W) (x:=x0) (by rw[hbs];rfl) hbw hbx hbl) rfl (fun x37=>?_));refine aV (fun h37=>?_);refine gG ?_;refine aag ?_;refine dU _ zA adn (SB)
  obtain⟨hbn,-,hW,hx⟩|⟨hbs,-⟩:=hB
  rotate_left
  · rw[hbs]at h34;simp at h34
  subst hW;subst hx;refine gG ?_;refine dU _ zA adn (SB)
 rintro τc0 _ _ ⟨u,da,dc,fp,e9,rfl,rfl,hu,he9⟩ _;have hfw:=hB.fit;have hWs:=hfw.1.slot;refine gG ?_;refine yS 42 ?_ ?_<;>intro h42 p42<;>refine gG ?_
 ·refine yC ?_ ?_<;>intro h45 p45
  ·exact absurd he9 om
  refine gG ?_;refine abz ?_;have hz0:=du.Er (da:=da) (dc:=dc) (fp:=fp) hfw.1.ic hfw.1.num (ib.lB (by rw[hu];exact hfw.2));rw[hu]at hz0;refine aa2 ?_;refine ze rfl (zc (Fi (p:=p) (s:=s) hok hM hK rT hlv (pre:=eA) (by decide) afM EI P.OC (nf:=LP) (P.num hlay) P.perm P.uR P.lt P.H7 P.file P.size P.K5) rfl (fun x53=>?_));refine aV (fun h53=>?_);obtain⟨o1,o2,o3,o4,o5⟩:=P.opened h53;rw[o2,o3];refine gG ?_;refine abz ?_;refine Zb ?_;refine bH [12,64,65,66,67,68,69,70,71] [64] (fun us H'=>∃(k:Nat)(yk:cb)(zk:du),us=[.int .i64 (k:Int)]/\bE b23 b7 p (some ⟨x53.lp,0,none⟩) x21.1 false::cb.H yk x21.1 (du.H zk b7 (row (.slice x53.a x53.all.length x53.c) 47 1 (x53.all.map BS.val)::dX x53.fp ⟨x53.all,[],[]⟩::bm x53.lp p eA x53.t::bP x53.t::DS.H p x53.s H))=H'/\k<=x53.all.length/\(yk.Ok)/\(yk.abs=gb (ia (dB.take k)))/\(zk.Is W x0 (eN (dB.take k)))) (fun us=>match us with| .int _ i::_=>x53.all.length-i.toNat|_=>0) ⟨0,(cb.made x21.2),(du.new W u da dc fp),rfl,rfl,om,cb.Ff _,by rw[XD,tG];exact cb.B2 _,by rw[XD];exact hz0⟩ SB ?_;rintro τ0 _ _ ⟨k,yk,zk,rfl,rfl,hk0,hyk,hya,hzk⟩ _;have hksl:=wT (dB.take k);rw[Xj]at hksl;have hzw:zk.w.slot=W.slot+(eN (dB.take k)).length:=by rw[hzk.w,pR]
  have hzl:zk.aT.length=(eN (dB.take k)).length:=aiR;have hzd:zk.ds.length=(eN (dB.take k)).length+1:=by rw[hzk.ds,mS]
  refine gG ?_;refine yC ?_ ?_<;>intro h65 p65
  ·have hk:k<x53.all.length:=om;have hku:k<dB.length:=adh;have hbk:x53.all[k].l=wS dB[k]:=by
    have h:=congrArg (fun l=>l[k]?) o5;simp only[XZ,WW hk,WW hku,XK]at h;exact YC h
   refine gG ?_;refine zq (bj rfl rfl om acG) rfl (zq (bC (.slice _ _ _) rfl (fV _ _ hk)) rfl ?_);refine gG ?_;have rbk:dT w0 (dX x53.fp ⟨x53.all,[],[]⟩::bm x53.lp p eA x53.t::bP x53.t::DS.H p x53.s H) (.slice x53.all[k].a x53.all[k].l.length x53.all[k].c) x53.all[k].l:=ju.get (ls:=x53.all) inferInstance (W1 hk);refine ze rfl (zc (yG (q:=b23) (sb:=b7) (p:=p) (bp:=x21.1) (lo:=some ⟨x53.lp,0,none⟩) (fu:=false) (y:=yk) hyk (z:=zk) hzk.ok om om om (b:=x53.all[k]) (r:=dB[k]) hbk (fun v hv=>hput v (hv▸W1 hku)) (fun x hx=>hfit x (hx▸W1 hku))) rfl (fun x70=>?_));refine aV (fun h70=>?_);have hnx:x70.2.Ok/\x70.2.abs=gb (ia (dB.take (k+1)))/\x70.1.Is W x0 (eN (dB.take (k+1))):=BH hku hyk hya hzk hzw hrt h70;refine gA ?_;exact af8
  have hkn:k=dB.length:=adh;rw[hkn,XE]at hya hzk;refine gG ?_;refine Za ?_;exact abV
 refine Zi ?_;refine abz ?_;have hz0:=du.Er (da:=da) (dc:=dc) (fp:=fp) hfw.1.ic hfw.1.num (ib.lB (by rw[hu];exact hfw.2));rw[hu]at hz0;refine aa2 ?_;refine ze rfl (zc (Fi (p:=p) (s:=s) hok hM hK rT hlv (pre:=eA) (by decide) afM EI P.OC (nf:=LP) (P.num hlay) P.perm P.uR P.lt P.H7 P.file P.size P.K5) rfl (fun x53=>?_));refine aV (fun h53=>?_);obtain⟨o1,o2,o3,o4,o5⟩:=P.opened h53;rw[o2,o3];refine gG ?_;refine abz ?_;refine Zb ?_;refine bH [12,64,65,66,67,68,69,70,71] [64] (fun us H'=>∃(k:Nat)(yk:cb)(zk:du),us=[.int .i64 (k:Int)]/\bE b23 b7 p (some ⟨x53.lp,0,none⟩) x21.1 false::cb.H yk x21.1 (du.H zk b7 (row (.slice x53.a x53.all.length x53.c) 47 1 (x53.all.map BS.val)::dX x53.fp ⟨x53.all,[],[]⟩::bm x53.lp p eA x53.t::bP x53.t::DS.H p x53.s H))=H'/\k<=x53.all.length/\(yk.Ok)/\(yk.abs=gb (ia (dB.take k)))/\(zk.Is W x0 (eN (dB.take k)))) (fun us=>match us with| .int _ i::_=>x53.all.length-i.toNat|_=>0) ⟨0,(cb.made x21.2),(du.new W u da dc fp),rfl,rfl,om,cb.Ff _,by rw[XD,tG];exact cb.B2 _,by rw[XD];exact hz0⟩ SB ?_;rintro τ0 _ _ ⟨k,yk,zk,rfl,rfl,hk0,hyk,hya,hzk⟩ _;have hksl:=wT (dB.take k);rw[Xj]at hksl;have hzw:zk.w.slot=W.slot+(eN (dB.take k)).length:=by rw[hzk.w,pR]
 have hzl:zk.aT.length=(eN (dB.take k)).length:=aiR;have hzd:zk.ds.length=(eN (dB.take k)).length+1:=by rw[hzk.ds,mS]
 refine gG ?_;refine yC ?_ ?_<;>intro h65 p65
 ·have hk:k<x53.all.length:=om;have hku:k<dB.length:=adh;have hbk:x53.all[k].l=wS dB[k]:=by
   have h:=congrArg (fun l=>l[k]?) o5;simp only[XZ,WW hk,WW hku,XK]at h;exact YC h
  refine gG ?_;refine zq (bj rfl rfl om acG) rfl (zq (bC (.slice _ _ _) rfl (fV _ _ hk)) rfl ?_);refine gG ?_;have rbk:dT w0 (dX x53.fp ⟨x53.all,[],[]⟩::bm x53.lp p eA x53.t::bP x53.t::DS.H p x53.s H) (.slice x53.all[k].a x53.all[k].l.length x53.all[k].c) x53.all[k].l:=ju.get (ls:=x53.all) inferInstance (W1 hk);refine ze rfl (zc (yG (q:=b23) (sb:=b7) (p:=p) (bp:=x21.1) (lo:=some ⟨x53.lp,0,none⟩) (fu:=false) (y:=yk) hyk (z:=zk) hzk.ok om om om (b:=x53.all[k]) (r:=dB[k]) hbk (fun v hv=>hput v (hv▸W1 hku)) (fun x hx=>hfit x (hx▸W1 hku))) rfl (fun x70=>?_));refine aV (fun h70=>?_);have hnx:x70.2.Ok/\x70.2.abs=gb (ia (dB.take (k+1)))/\x70.1.Is W x0 (eN (dB.take (k+1))):=BH hku hyk hya hzk hzw hrt h70;refine gA ?_;exact af8
 have hkn:k=dB.length:=adh;rw[hkn,XE]at hya hzk;refine gG ?_;refine Za ?_;exact abV
end
end Go.Proofs.YtmbfimckmfnnjaaGreatDoor
