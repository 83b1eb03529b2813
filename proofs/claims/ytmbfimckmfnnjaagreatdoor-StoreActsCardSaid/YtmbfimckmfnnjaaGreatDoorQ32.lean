/- Steps of the proof of a law. -/
import Derived.Test.YtmbfimckmfnnjaaGreatDoorQ31
set_option maxRecDepth 100000
set_option maxHeartbeats 1000000
set_option linter.unusedSimpArgs false
set_option linter.unusedVariables false
namespace Go.Proofs.YtmbfimckmfnnjaaGreatDoor
open Go.RowKit Go.Sx Go.Proofs.Tryz
section
theorem Le(es:FM)(k:ByteArray):(gl es k).l.length<=kF es:=by
 unfold gl;cases hg:eu es k with
 |none=>exact Xv _
 |some v=>
   obtain⟨e,he,-,rfl⟩:=lQ hg;show e.v.l.length<=_;have:∀l:FM,e∈l->e.v.l.length<=kF l:=by
     intro l
     induction l with
     |nil=>intro h;cases h
     |cons x l ih=>
       intro h;have hs:kF (x::l)=x.v.l.length+kF l:=rfl;rw[hs];rcases Xg.1 h with rfl|h
       · omega
       · have:=ih h;omega
   exact this es he
theorem JX.Ao{s s':DS}{N M:Nat}{a:ca}{e:Int}(h:JX s a s' e)(hok:s.Ok N M)(ha:a.b∈s.bs)(hb:a.b.l.length<=2000000)(hx2:(kA s.e2 a).length<=M):s'.Ok (N+1) M:=by
 rcases h with⟨-,-,rfl⟩|⟨-,-,x,pa,pc,fp,hx,rfl⟩
 · have h1:=hok.mono (Yh N 1) (W8 M)
   exact aem
 · refine⟨hok.qk,v7 hok.gR,fun e he=>Xa _ (hok.Av e he),wq hok.oH hok.zero,fun b hb'=>?_,Xa _ hok.zero,fun y hy=>?_,fun b hb'=>?_,by have:=hok.n1;show s.e1.length<=_;omega,by have h1:=AS (es:=s.e2) (a:=a) (x:=x) (c:=s.c2);have:=hok.n2;show(oA s.e2 a x s.c2).length<=_;omega,by have:=hok.np;show(s.cw++[a]).length<=_;simp;omega,hok.oB,hok.nk,mO hok.pg⟩
   · rcases Xc.1 hb' with h1|h1
     · exact Xa _ (hok.xd b h1)
     · obtain rfl:b=a:=by simpa using h1
       exact Xa _ ha
   · rcases Xg.1 hy with rfl|hy
     · rw[hx];exact hx2
     · exact hok.len y hy
   · rcases Xc.1 hb' with h1|h1
     · exact hok.short b h1
     · obtain rfl:b=a:=by simpa using h1
       exact hb
theorem Lk{es:FM}{a:ca}(h1:a.kind≠1)(h2:a.kind≠2):kA es a=[]:=by unfold kA;rw[if_neg h1,if_neg h2]
theorem uq.Ao{k:Int}{s s':DS}{N M:Nat}{nm:ByteArray}{b:List UInt8}{e:Int}{less:Nat}(h:uq k less s nm b s' e)(hk:(k=1/\less=0)∨k=2)(hok:s.Ok N M)(hb:b.length<=2000000)(hM:2000000<=M):s'.Ok (N+1) M:=by
 have h1:=hok.mono (Yh N 1) (W8 M);rcases h with⟨-,-,rfl⟩|⟨-,-,-,rfl⟩|⟨-,-,-,-,rfl⟩|⟨-,-,hf,cl,fp,hcl,hd⟩
 · exact h1
 · exact h1
 · exact h1
 · refine hd.Ao (hok.El (by rw[hcl];omega)) (XF ..) aic ?_
   show(kA s.e2 ⟨k,nm,⟨#[]⟩,cl⟩).length<=M;rcases hk with⟨rfl,rfl⟩|rfl
   · have e1:kA s.e2 ⟨1,nm,⟨#[]⟩,cl⟩=(gl s.e2 nm).l++cl.l:=if_pos rfl
     rw[e1,WX,hcl];have h2:=Le s.e2 nm;have h3:=hok.nk;have h4:(b.length:Int)<=s.room-(kF s.e2:Int)+((0:Nat):Int):=of_decide_eq_true hf;omega
   · have e1:kA s.e2 ⟨2,nm,⟨#[]⟩,cl⟩=cl.l:=rfl
     rw[e1,hcl];omega
theorem MZ.Ao{s s':DS}{N M:Nat}{a:ca}{ok:Bool}{e:Int}(h:MZ a ok s s' e)(hok:s.Ok N M)(ha:a.b=zB)(h1:a.kind≠1)(h2:a.kind≠2):s'.Ok (N+1) M:=by
 have h3:=hok.mono (Yh N 1) (W8 M);rcases h with⟨-,-,rfl⟩|⟨-,-,-,rfl⟩|⟨-,-,-,-,rfl⟩|⟨-,-,-,hd⟩
 · exact h3
 · exact h3
 · exact h3
 · exact hd.Ao hok (by rw[ha];exact hok.zero) (by rw[ha];exact Xv _) (by rw[Lk h1 h2];exact Xv _)
structure Live(s:DS):Prop where
 down:s.down=false
 dE:s.dE= -1
theorem Live.OU{s:DS}(h:Live s):ll s.dE s.down=false:=by rw[h.dE,h.down];rfl
theorem JX.live{s s':DS}{a:ca}{e:Int}(h:JX s a s' e)(hl:Live s){c:Nat}(hg:eQ s.e2 c):e=0/\Live s'/\s'.room=s.room/\s'.e1=s.e1/\s'.cw=s.cw++[a]/\cont s'.e2=jY (cont s.e2) a:=by
 rcases h with⟨h,-⟩|⟨-,he,x,pa,pc,fp,hx,rfl⟩
 · rw[hl.OU]at h;cases h
 · exact⟨he,⟨rfl,by show iN s.dE= -1;rw[hl.dE];rfl⟩,rfl,rfl,rfl,vI hg hx _⟩
theorem uq.jm{k:Int}{less:Nat}{s s':DS}{nm:ByteArray}{b:List UInt8}{e:Int}(h:uq k less s nm b s' e)(hl:Live s)(hn:jI nm=true){c:Nat}(hg:eQ s.e2 c):(e=4/\s'=s)∨(e=0/\Live s'/\s'.room=s.room/\s'.e1=s.e1/\∃cl:BS,cl.l=b/\s'.cw=s.cw++[⟨k,nm,⟨#[]⟩,cl⟩]/\cont s'.e2=jY (cont s.e2) ⟨k,nm,⟨#[]⟩,cl⟩):=by
 rcases h with⟨h,-⟩|⟨-,h,-,-⟩|⟨-,-,-,he,rfl⟩|⟨-,-,-,cl,fp,hcl,hd⟩
 · rw[hl.down]at h;cases h
 · rw[hn]at h;cases h
 · exact .inl ⟨he,rfl⟩
 · obtain⟨h1,h2,h3,h4,h5,h6⟩:=hd.live ⟨hl.down,hl.dE⟩ (c:=c) hg
   exact .inr ⟨h1,h2,h3,h4,cl,hcl,h5,h6⟩
theorem MZ.jm{s s':DS}{a:ca}{ok:Bool}{e:Int}(h:MZ a ok s s' e)(hl:Live s)(hk:ok=true)(hh:eZ s.e2 a.name=true){c:Nat}(hg:eQ s.e2 c):e=0/\Live s'/\s'.room=s.room/\cont s'.e2=jY (cont s.e2) a:=by
 rcases h with⟨h,-⟩|⟨-,h,-,-⟩|⟨-,-,h,-⟩|⟨-,-,-,hd⟩
 · rw[hl.down]at h;cases h
 · rw[hk]at h;cases h
 · rw[hh]at h;cases h
 · obtain⟨h1,h2,h3,h4,h5,h6⟩:=hd.live hl hg
   exact⟨h1,h2,h3,h6⟩
theorem rM.jm{s s':DS}(h:rM s s')(hl:Live s):Live s'/\s'.room=s.room/\s'.cw=[]/\s'.e1=s.e2/\s'.e2=s.e2:=by
 rcases h with⟨h,-⟩|⟨-,q1,q2,rfl⟩
 · rw[hl.OU]at h;cases h
 · exact⟨⟨rfl,by show iN s.dE= -1;rw[hl.dE];rfl⟩,rfl,rfl,rfl,rfl⟩
theorem oP{es:FM}{k:ByteArray}{l:List UInt8}(h:cont es k=some l):eZ es k=true:=by rw[kE,h];rfl
def LM:ByteArray:=⟨#[46,116,109,112]⟩
def nC(pre:ByteArray):ByteArray:=pre++LM
theorem HH(n:Nat)(hn:n<100):∃c l,Lib.decDigits n=c::l/\c.toNat<58:=by
 by_cases h:n<10
 · rw[Lib.decDigits_one h];refine⟨_,_,rfl,?_⟩;simp;omega
 · rw[Lib.decDigits_two h hn];refine⟨_,_,rfl,?_⟩;simp;omega
theorem Jo{pre:ByteArray}{n:Nat}(hn:n<100):nC pre≠fW pre n:=fun h=>by
 have h1:=congrArg (fun b:ByteArray=>b.data.toList) h;have h2:(nC pre).data.toList=pre.data.toList++[46,116,109,112]:=by unfold nC;simp[LM]
 simp only[sA,h2]at h1;obtain⟨c,l,hd,hc⟩:=HH n hn;rw[hd]at h1;have hdot:mT.data.toList=[46]:=rfl;simp[hdot]at h1;have:=h1.1;subst this
 revert hc;decide
def MO(pre:ByteArray)(l:List Nat)(key:ByteArray):Bool:=l.any fun n=>decide (key=fW pre n)
theorem jE{pre:ByteArray}{l:List Nat}{key:ByteArray}:MO pre l key=true↔∃n∈l,key=fW pre n:=by
 unfold MO;simp[List.any_eq_true]
theorem A2{pre:ByteArray}{l:List Nat}{key:ByteArray}(h:∀n∈l,key≠fW pre n):¬MO pre l key=true:=fun h2=>by
 obtain⟨n,hn,he⟩:=jE.1 h2;exact h n hn he
def lG(pre:ByteArray)(f:kz)(av:List Nat)(k j:Nat)(g:List UInt8):kz:=fun key=>
 if key=fW pre (av.getD k 0)then some g else if key=nC pre then none else if MO pre (av.drop j) key=true then none else f key
theorem Bs{pre:ByteArray}{f:kz}{av:List Nat}{k:Nat}{g:List UInt8}(hk:k<av.length)(h1:∀n∈av,n<100){a b:ca}(ha:a.kind=2)(han:a.name=nC pre)(hab:a.b.l=g)(hb:b.kind=3)(hbn:b.name=nC pre)(hbt:b.to=fW pre (av.getD k 0)):jY (jY f a) b=lG pre f av k av.length g:=by
 have hgk:av.getD k 0∈av:=by rw[Xy,WW hk];exact W1 hk
 have hne:=Jo (pre:=pre) (h1 _ hgk);have hd:∀key,jY f a key=if key=nC pre then some g else f key:=fun key=>by
   unfold jY;rw[if_neg om,if_pos ha,han,hab]
 funext key
 have e:∀h:kz,jY h b key=if (h b.name).isSome=true/\b.name≠b.to then(if key=b.to then h b.name else if key=b.name then none else h key)else h key:=fun h=>by
   unfold jY;rw[if_neg om,if_neg om,if_pos hb]
 rw[e,hbn,hbt,hd,if_pos rfl,if_pos ⟨rfl,hne⟩,hd];unfold lG;rw[List.drop_length];by_cases q1:key=fW pre (av.getD k 0)
 · rw[if_pos q1,if_pos q1]
 · rw[if_neg q1,if_neg q1]
   by_cases q2:key=nC pre
   · rw[if_pos q2,if_pos q2]
   · rw[if_neg q2,if_neg q2,if_neg q2,if_neg (A2 (fun n hn=>by cases hn))]
theorem DV{pre:ByteArray}{f:kz}{av:List Nat}{k j:Nat}{g:List UInt8}(hkj:k+1<j)(hj:j<=av.length)(h1:∀n∈av,n<100)(hnd:av.Nodup){a:ca}(ha:a.kind=4)(han:a.name=fW pre (av.getD (j-1) 0)):jY (lG pre f av k j g) a=lG pre f av k (j-1) g:=by
 have hjm:av.getD (j-1) 0=av[j-1]:=ahL;have hkm:av.getD k 0=av[k]:=ahL;have hdr:av.drop (j-1)=av[j-1]::av.drop j:=by
   rw[Xu om,show j-1+1=j by omega]
 have hne:fW pre av[k]≠fW pre av[j-1]:=fun h=>by
   have h2:=mb (h1 _ (W1 _)) (h1 _ (W1 _)) h;have h3:=(List.getElem_inj hnd).1 h2;omega
 funext key
 have e:jY (lG pre f av k j g) a key=if key=a.name then none else lG pre f av k j g key:=by
   unfold jY;rw[if_neg om,if_neg om,if_neg om,if_pos ha]
 rw[e,han,hjm];unfold lG;rw[hkm];by_cases q1:key=fW pre av[j-1]
 · rw[if_pos q1,if_neg (by rw[q1];exact fun h=>hne h.symm)]
   by_cases q2:key=nC pre
   · rw[if_pos q2]
   · rw[if_neg q2,if_pos (jE.2 ⟨av[j-1],by rw[hdr];exact XF ..,q1⟩)]
 · rw[if_neg q1]
   by_cases q2:key=fW pre av[k]
   · rw[if_pos q2,if_pos q2]
   · rw[if_neg q2,if_neg q2]
     by_cases q3:key=nC pre
     · rw[if_pos q3,if_pos q3]
     · rw[if_neg q3,if_neg q3]
       by_cases q4:MO pre (av.drop j) key=true
       · obtain⟨n,hn,he⟩:=jE.1 q4
         rw[if_pos q4,if_pos (jE.2 ⟨n,by rw[hdr];exact Xa _ hn,he⟩)]
       · rw[if_neg q4,if_neg (A2 (fun n hn he=>by rw[hdr]at hn;rcases Xg.1 hn with h|h;exact q1 (h▸he);exact q4 (jE.2 ⟨n,h,he⟩)))]
theorem LN{l:List Nat}{j:Nat}(h0:0<j)(hj:j<=l.length):((l.take j).map encI)[((j-1:Nat):Int).toNat]? =some (.int .i64 ((l.getD (j-1) 0:Nat):Int)):=by
 have e:((j-1:Nat):Int).toNat=j-1:=om;rw[e,rS _ _ ae5,List.getElem_take,Xy,WW om];rfl
theorem IY{l:List Nat}{k:Nat}(hk:k<l.length):(l.map encI)[((k:Nat):Int).toNat]? =some (.int .i64 ((l.getD k 0:Nat):Int)):=by
 have e:((k:Nat):Int).toNat=k:=om;rw[e,rS _ _ hk,Xy,WW hk];rfl
theorem rI{l:List Nat}{k:Nat}(hk:k<l.length):l.getD k 0∈l:=by rw[Xy,WW hk];exact W1 hk
theorem St.OI{w0 w:World}{H:List SA}{a:Option Addr}{c:Nat}{e:TypeId}{xs:List Value}(m:Nat)(hm:m<=xs.length)(h:St w0 (lI (.slice a xs.length c) e xs::H) w):St w0 (lI (.slice a (xs.take m).length c) e (xs.take m)::H) w:=
 h.Hq (by show bQ _=bQ _;cases a<;>rfl) fun hp=>by
   obtain⟨a',c',hv,hn,hc,ha,hx⟩:=(hp:ug (.slice a xs.length c) e xs w);simp only[Value.slice.injEq,true_and]at hv;obtain⟨rfl,rfl⟩:=hv;refine⟨a,c,rfl,by rw[Xj];omega,hc,ha,fun h0=>?_⟩;obtain⟨g,o,cur,hg,hw,h1,h2⟩:=hx h0;refine⟨g,o,cur,hg,hw,h1,?_⟩;have e:(cur.toList.drop o).take (xs.take m).length=((cur.toList.drop o).take xs.length).take m:=by
     rw[List.take_take,Xj]
   rw[e,h2]
def Ow(pre:ByteArray)(s:DS)(t:LS)(k:Nat)(g:List UInt8)(M K:Nat)(s':DS)(t':LS)(e:Int):Prop:=
 s'.Ok (M+2+t.av.length) K/\(e=4∨(e=0/\Live s'/\s'.room=s.room/\s'.cw=[]/\cont s'.e1=cont s'.e2/\cont s'.e2=lG pre (cont s.e2) t.av k (k+1) g/\t'=⟨t.ga,t.gc,t.av.take (k+1),t.gi,t.nx,t.bg⟩))
theorem KL{pre:ByteArray}(hp:pre.size<=8):Op.stringOp .add pre LM=pure (.string (nC pre)):=pV (by have:LM.size=4:=rfl;omega)
theorem xK{pre:ByteArray}(hp:pre.size<=8):jI (nC pre)=true:=by
 have h1:(nC pre).size=pre.size+4:=by unfold nC;rw[YW];rfl
 exact decide_eq_true om
theorem nB{pre:ByteArray}(hp:pre.size<=8){n:Nat}(hn:n<100):jI (fW pre n)=true:=by
 have:=Cp (pre:=pre) n hn;exact decide_eq_true om
attribute [local irreducible] cv bL fW bY fq fH lG nC
theorem FD{f:kz}{nm to:ByteArray}{cl:BS}{g:List UInt8}(h:cl.l=g):jY f ⟨2,nm,to,cl⟩ nm=some g:=by
 show(if (2:Int)=1 then _ else if (2:Int)=2 then(if nm=nm then some cl.l else _)else _)=_;rw[if_neg dc,if_pos rfl,if_pos rfl,h]
theorem JI{pre:ByteArray}{f:FM}{s:DS}{av:List Nat}{k j:Nat}{g:List UInt8}(hc:cont s.e2=lG pre (cont f) av k j g)(hkj:k+1<j)(hj:j<=av.length)(h1:∀n∈av,n<100)(hnd:av.Nodup)(hex:∀n∈av,eZ f (fW pre n)=true):eZ s.e2 (fW pre (av.getD (j-1) 0))=true:=by
 have hjm:av.getD (j-1) 0=av[j-1]:=ahL;have hkm:av.getD k 0=av[k]:=ahL;rw[kE,hc];unfold lG;rw[hjm,hkm,if_neg (fun h=>by
   have h2:=mb (h1 _ (W1 _)) (h1 _ (W1 _)) h;have h3:=(List.getElem_inj hnd).1 h2;omega),if_neg (fun h=>Jo (h1 _ (W1 _)) h.symm),if_neg (fun h=>by
   obtain⟨n,hn,he⟩:=jE.1 h
   replace he:=he.symm
   obtain⟨i,hi,hni⟩:=XU hn;rw[List.getElem_drop]at hni;have h2:=mb (h1 _ (List.mem_of_mem_drop hn)) (h1 _ (W1 _)) he;rw[←hni]at h2;have h3:=(List.getElem_inj hnd).1 h2;omega),←kE]
 exact hex _ (W1 _)
theorem MC{w0 w:World}{H:List SA}{lp p j:Nat}{pre:ByteArray}{t:LS}{s:DS}(hj:j<=t.av.length)(h:St w0 (bm lp p pre (⟨t.ga,t.gc,t.av.take j,t.gi,t.nx,t.bg⟩:LS)::bP (⟨t.ga,t.gc,t.av.take j,t.gi,t.nx,t.bg⟩:LS)::DS.H p s H) w):j-1<=t.gc:=by
 have hp:ug (.slice t.ga (t.av.take j).length t.gc) 3 ((t.av.take j).map encI) w:=h.holds (lI (.slice t.ga (t.av.take j).length t.gc) 3 ((t.av.take j).map encI)) (Xa _ (XF ..));obtain⟨a,c,hv,hn,-⟩:=hp;simp only[Value.slice.injEq]at hv;obtain⟨-,h2,rfl⟩:=hv;rw[WZ]at hn;have:(t.av.take j).length=j:=ae5;omega
theorem Jb{w0 w:World}{H:List SA}{lp p j:Nat}{pre:ByteArray}{t:LS}{s:DS}(hj0:0<j)(hj:j<=t.av.length)(h:St w0 (lI (.slice t.ga (t.av.take j).length t.gc) 3 ((t.av.take j).map encI)::H) w):St w0 (lI (.slice t.ga (t.av.take (j-1)).length t.gc) 3 ((t.av.take (j-1)).map encI)::H) w:=by
 have e:(t.av.take j).length=((t.av.take j).map encI).length:=sm;rw[e]at h;have h2:=St.OI (j-1) (by rw[WZ,Xj];omega) h;rw[←List.map_take,List.take_take,show min (j-1) j=j-1 by omega,WZ]at h2;exact h2
theorem NS{w0:World}{H:List SA}{lp p:Nat}{pre:ByteArray}{t:LS}{s:DS}{M K:Nat}(hok:s.Ok M K)(hM:M<=900000)(hK:K<=1000000000)(rT:2000000<=K)(hlv:Live s)(hp:pre.size<=8)(hsl:t.av.length<=1000){k:Nat}(hk:k<t.av.length)(hm1:∀n∈t.av,n<100)(hnd:t.av.Nodup)(hex:∀n∈t.av,eZ s.e2 (fW pre n)=true){g:BS}[rg:dT w0 H (.slice g.a g.l.length g.c) g.l](hgl:g.l.length<=2000000):CT prog w0 (bm lp p pre t::bP t::DS.H p s H) 72 [.pointer (some ⟨lp,0,none⟩),.int .i64 (k:Int),.slice g.a g.l.length g.c] (α:=DS×LS×Int) (fun y=> .int .i64 y.2.2) (fun y=>pu (Ow pre s t k g.l M K y.1 y.2.1 y.2.2)::bm lp p pre y.2.1::bP y.2.1::DS.H p y.1 H):=by
 refine al func72 rfl ntmps72 rfl (gG ?_);refine zq (ke (v:= .string (nC pre)) rfl rfl (KL hp)) rfl ?_;refine gG ?_;refine ahC ?_;refine ze rfl (zc (uC (s:=s) hok om om (nm:=nC pre) (b:=g) hgl om) rfl (fun x23=>?_));refine aV (fun h23=>?_);have hok23:=h23.Ao (.inr rfl) hok hgl rT;have hlf:=h23.jm hlv (xK hp) hok.gR;refine gG ?_;refine yC ?_ ?_<;>intro h25 p25<;>try simp only at p25
 ·obtain⟨he0,-⟩|⟨he4,-⟩:=hlf.symm
  · exact absurd he0 p25
  refine zS (zR (zq (zm (.int .i64 _) rfl) rfl (zq (za (.int .i64 _) rfl) rfl (zz (zx (zQ (zr ?_)))))))
  first|exact zX (x23.1,t,x23.2) [_] results72 ⟨rfl,trivial⟩ rfl (aP (⟨hok23.mono om om,.inl he4⟩) SB)
 obtain⟨he4,-⟩|⟨he0,hlv23,hr23,h23a,cl,hcl,hpd,hct⟩:=hlf
 · exact absurd he4 om
 refine gG ?_;refine cu (DS.H p x23.1 (bm lp p pre t::bP t::H)) ?_;refine ze rfl (zc (pf (s:=x23.1) hok23 om om) rfl (fun x31=>?_));refine aV (fun h31=>?_);have hok31:=h31.ok hok23;obtain⟨hlv31,hr31,hp31,h31a,h31b⟩:=h31.jm hlv23;have hc31:cont x31.e2=jY (cont s.e2) ⟨2,nC pre,⟨#[]⟩,cl⟩:=by rw[h31b];exact hct
 refine gG ?_;refine dw (bm lp p pre t::bP t::H) [(0,true),(1,true),(2,true),(3,true),(4,true),(5,true),(6,true),(7,true),(8,true),(9,true),(10,true),(11,true),(12,true),(13,false),(14,false),(15,true)] (fun hns0=>?_);refine zd hns0 rfl (zm (.pointer _) rfl) rfl (zd hns0 rfl (aN rfl) rfl (zd hns0 rfl (zf 0 rfl rfl) rfl (zd hns0 rfl (zl rfl) rfl (zd hns0 rfl (zm (.string _) rfl) rfl (zd hns0 rfl (zm (.pointer _) rfl) rfl (zd hns0 rfl (zm (.pointer _) rfl) rfl (zd hns0 rfl (aN rfl) rfl ?_)))))));refine zd hns0 rfl (zf 2 rfl rfl) rfl (zd hns0 rfl (zl rfl) rfl (zd hns0 rfl (zm (.int .i64 _) rfl) rfl (zd hns0 rfl (bj rfl rfl om acG) rfl (zd hns0 rfl (bC (.int .i64 ((t.av.getD k 0:Nat):Int)) rfl (IY hk)) rfl ?_))));refine ae4 ?_;refine cX rfl rfl (zc (qJ (t:=t) om (i:=t.av.getD k 0) (hm1 _ (rI hk))) rfl (fun x45=>⟨SB,?_⟩));refine gX (fun w hw=>(SB w hw:St w0 (DS.H p x31 (bm lp p pre t::bP t::H)) w)) ?_;refine cX rfl rfl (zc (Cb (s:=x31) hok31 om om (nm:=nC pre) (to:=fW pre (t.av.getD k 0))) rfl (fun x46=>⟨SB,?_⟩));refine im (fun h46=>?_);have hok46:=h46.Ao hok31 rfl (show(3:Int)≠1 by decide) (show(3:Int)≠2 by decide);obtain⟨he46,hlv46,hr46,hc46⟩:=h46.jm hlv31 (by rw[xK hp,nB hp (hm1 _ (rI hk))];rfl) (oP (l:=g.l) (by rw[hc31];exact FD hcl)) hok31.gR;refine gA ?_;refine yC ?_ ?_<;>intro h48 p48<;>try simp only at p48
 ·exact absurd he46 om
 refine gG ?_;refine cu (DS.H p x46.1 (bm lp p pre t::bP t::H)) ?_;refine ze rfl (zc (pf (s:=x46.1) hok46 om om) rfl (fun x54=>?_));refine aV (fun h54=>?_);have hok54:=h54.ok hok46;obtain⟨hlv54,hr54,hp54,h54a,h54b⟩:=h54.jm hlv46;have hc54:cont x54.e2=lG pre (cont s.e2) t.av k t.av.length g.l:=by rw[h54b,hc46,hc31];exact Bs hk hm1 rfl rfl hcl rfl rfl rfl
 have hlt:t.av.take t.av.length=t.av:=XE;refine gG ?_;refine qa (m0:=t.av.length) [6,10,11,55,56,57,58,59,60,61,62,63,64,65,66,67,68,69,70,71,72,73,74,75,76,77,78,79,80,81,82,83,84,85,86,87,88,89,90,91,92,93,94,95,96,97,98,99] [] (fun us H' m=>∃(j:Nat)(sj:DS),us=[]/\(bm lp p pre (⟨t.ga,t.gc,t.av.take j,t.gi,t.nx,t.bg⟩:LS)::bP (⟨t.ga,t.gc,t.av.take j,t.gi,t.nx,t.bg⟩:LS)::DS.H p sj H)=H'/\j=m/\k+1<=j/\j<=t.av.length/\sj.Ok (M+2+(t.av.length-j)) K/\Live sj/\sj.room=s.room/\sj.cw=[]/\cont sj.e1=cont sj.e2/\cont sj.e2=lG pre (cont s.e2) t.av k j g.l) ⟨t.av.length,x54,rfl,rfl,rfl,om,W8 _,hok54.mono om om,hlv54,by rw[hr54,hr46,hr31,hr23],hp54,by rw[h54a,h54b],hc54⟩ (fun w hw=>by rw[hlt];exact(SB w hw:St w0 (bm lp p pre t::bP t::DS.H p x54 H) w)) ?_;rintro τ0 _ _ m ⟨j,sj,rfl,rfl,rfl,hj0,hjl,hokj,hlvj,hrj,hpj,hej,hcj⟩ _;have hlj:(t.av.take j).length=j:=ae5;refine gA ?_;refine yC ?_ ?_<;>intro h62 p62<;>try simp only at p62
 ·have hkj:k+1<j:=om;refine gG ?_;refine zq (bI (jG rfl rfl aci aci) (congrArg (Value.int .i64) (show(((t.av.take j).length:Nat):Int)-1=((j-1:Nat):Int)from by omega))) rfl ?_;refine gG ?_;refine dw (bm lp p pre (⟨t.ga,t.gc,t.av.take j,t.gi,t.nx,t.bg⟩:LS)::bP (⟨t.ga,t.gc,t.av.take j,t.gi,t.nx,t.bg⟩:LS)::H) [(0,true),(1,true),(2,true),(3,true),(4,true),(5,true),(6,true),(7,true),(8,true),(9,true),(10,true),(11,true),(12,false),(13,false),(14,true)] (fun hns1=>?_);refine zd hns1 rfl (zm (.pointer _) rfl) rfl (zd hns1 rfl (aN rfl) rfl (zd hns1 rfl (zf 0 rfl rfl) rfl (zd hns1 rfl (zl rfl) rfl (zd hns1 rfl (zm (.pointer _) rfl) rfl (zd hns1 rfl (zm (.pointer _) rfl) rfl (zd hns1 rfl (aN rfl) rfl (zd hns1 rfl (zf 2 rfl rfl) rfl ?_)))))));refine zd hns1 rfl (zl rfl) rfl (zd hns1 rfl (zm (.int .i64 _) rfl) rfl (zd hns1 rfl (bj rfl rfl om (by dsimp only;rw[WZ];omega)) rfl (zd hns1 rfl (bC (.int .i64 ((t.av.getD (j-1) 0:Nat):Int)) rfl (LN om hjl)) rfl ?_)));refine lP (bm lp p pre (⟨t.ga,t.gc,t.av.take j,t.gi,t.nx,t.bg⟩:LS)) ?_;refine cX rfl rfl (zc (qJ (t:=(⟨t.ga,t.gc,t.av.take j,t.gi,t.nx,t.bg⟩:LS)) om (i:=t.av.getD (j-1) 0) (hm1 _ (rI om))) rfl (fun x81=>⟨SB,?_⟩));refine gX (fun w hw=>(SB w hw:St w0 (DS.H p sj (bm lp p pre (⟨t.ga,t.gc,t.av.take j,t.gi,t.nx,t.bg⟩:LS)::bP (⟨t.ga,t.gc,t.av.take j,t.gi,t.nx,t.bg⟩:LS)::H)) w)) ?_;refine cX rfl rfl (zc (CR (s:=sj) hokj om om (nm:=fW pre (t.av.getD (j-1) 0))) rfl (fun x82=>⟨SB,?_⟩));refine im (fun h82=>?_)
  have hok82:=h82.Ao hokj rfl (show(4:Int)≠1 by decide) (show(4:Int)≠2 by decide);obtain⟨he82,hlv82,hr82,hc82⟩:=h82.jm hlvj (nB hp (hm1 _ (rI om))) (JI hcj hkj hjl hm1 hnd hex) hokj.gR;refine gA ?_;refine yC ?_ ?_<;>intro h84 p84<;>try simp only at p84
  ·exact absurd he82 om
  refine gG ?_;refine cu (DS.H p x82.1 (bm lp p pre (⟨t.ga,t.gc,t.av.take j,t.gi,t.nx,t.bg⟩:LS)::bP (⟨t.ga,t.gc,t.av.take j,t.gi,t.nx,t.bg⟩:LS)::H)) ?_;refine ze rfl (zc (pf (s:=x82.1) hok82 om om) rfl (fun x90=>?_));refine aV (fun h90=>?_);have hok90:=h90.ok hok82;obtain⟨hlv90,hr90,hp90,h90a,h90b⟩:=h90.jm hlv82;have hc90:cont x90.e2=lG pre (cont s.e2) t.av k (j-1) g.l:=by rw[h90b,hc82,hcj];exact DV hkj hjl hm1 hnd rfl rfl
  refine gG ?_;refine zq (bI (nO (j-1) rfl rfl (fun w hw=>MC (j:=j) (lp:=lp) (p:=p) (pre:=pre) (t:=t) (s:=x90) (H:=H) hjl (SB w hw))) (show Value.slice t.ga (j-1) t.gc= .slice t.ga (t.av.take (j-1)).length t.gc from by rw[Xj,Nat.min_eq_left om])) rfl ?_;refine ez (fun w hw=>Jb (j:=j) (p:=p) (lp:=lp) (pre:=pre) (t:=t) (s:=x90) (H:=bm lp p pre (⟨t.ga,t.gc,t.av.take j,t.gi,t.nx,t.bg⟩:LS)::DS.H p x90 H) om hjl (SB w hw)) ?_;refine gG ?_;refine aaM ?_;refine qc _ zA (⟨j-1,x90,rfl,rfl,rfl,om,om,hok90.mono om om,hlv90,by rw[hr90,hr82,hrj],hp90,by rw[h90a,h90b],hc90⟩) om (SB)
 obtain rfl:j=k+1:=om;refine gG ?_;refine Zv ?_;exact zX (sj,(⟨t.ga,t.gc,t.av.take (k+1),t.gi,t.nx,t.bg⟩:LS),0) [_] results72 ⟨rfl,trivial⟩ rfl (aP (⟨hokj.mono om om,.inr ⟨rfl,hlvj,hrj,hpj,hej,hcj,rfl⟩⟩) SB)
end
section
structure Sc where
 gi:Nat
 nx:Nat
 bg:Bool
@[reducible] def jV:Sc:=⟨0,1,false⟩
def Ii(x:Sc)(b:List UInt8):Sc:=⟨(eh b x.bg x.nx).2.1,(eh b x.bg x.nx).2.2.2,(eh b x.bg x.nx).2.2.1⟩
def eF(cf:Nat->List UInt8):List Nat->Sc->Sc
 |[],x=>x
 |n::ns,x=>eF cf ns (Ii x (cf n))
def kB(cf:Nat->List UInt8):List Nat->Sc->List (List UInt8)
 |[],_=>[]
 |n::ns,x=>(eh (cf n) x.bg x.nx).1++kB cf ns (Ii x (cf n))
variable {w0 w:World} {H:List SA} {m:List Nat} {p gc b29:Nat} {pre:ByteArray} {cf:Nat->List UInt8} {ga:Option Addr} {s:DS}
theorem wy(cf:Nat->List UInt8):∀(m:List Nat)(x:Sc)(k:Nat)(hk:k<m.length),eF cf (m.take (k+1)) x=Ii (eF cf (m.take k) x) (cf m[k])
 |_::_,_,0,_=>rfl
 |n::m,x,k+1,hk=>wy cf m (Ii x (cf n)) k abf
theorem vb(cf:Nat->List UInt8):∀(m:List Nat)(x:Sc)(k:Nat)(hk:k<m.length),kB cf (m.take (k+1)) x=kB cf (m.take k) x++(eh (cf m[k]) (eF cf (m.take k) x).bg (eF cf (m.take k) x).nx).1
 |n::m,x,0,_=>by show(eh (cf n) x.bg x.nx).1++[]=[]++(eh (cf n) x.bg x.nx).1;simp
 |n::m,x,k+1,hk=>by
   have h:=vb cf m (Ii x (cf n)) k abf;show(eh (cf n) x.bg x.nx).1++kB cf (m.take (k+1)) (Ii x (cf n))=((eh (cf n) x.bg x.nx).1++kB cf (m.take k) (Ii x (cf n)))++_;rw[h,W4];rfl
theorem vR(cf:Nat->List UInt8):∀(m:List Nat)(x:Sc),x.nx<18446744073709551616->(eF cf m x).nx<18446744073709551616
 |[],_,h=>h
 |n::m,x,h=>vR cf m _ (tE (cf n) x.bg h).2.1
theorem Lp(cf:Nat->List UInt8)(m:List Nat)(x:Sc):eF cf (m.take 0) x=x:=by rw[XD];rfl
theorem KD(cf:Nat->List UInt8)(m:List Nat)(x:Sc):kB cf (m.take 0) x=[]:=by rw[XD];rfl
@[reducible] def oz(ga:Option Addr)(gc:Nat)(av:List Nat)(x:Sc):LS:=⟨ga,gc,av,x.gi,x.nx,x.bg⟩
def mF(cf:Nat->List UInt8)(m:List Nat)(k:Nat):Prop:=∀i (_:i<k)(hm:i<m.length),(eh (cf m[i]) (eF cf (m.take i) jV).bg (eF cf (m.take i) jV).nx).2.1=(cf m[i]).length
theorem G6(cf:Nat->List UInt8)(m:List Nat):mF cf m 0:=fun i h=>absurd h (Ya i)
theorem AA{k:Nat}(h:mF cf m k)(hk:k<m.length)(h2:(eh (cf m[k]) (eF cf (m.take k) jV).bg (eF cf (m.take k) jV).nx).2.1=(cf m[k]).length):mF cf m (k+1):=fun i hi hm=>by
 by_cases e:i=k
 · subst e;exact h2
 · exact h i om hm
def kU(nf:ByteArray->Nat)(l:List ByteArray):List Nat:=(l.map nf).filter fun n=>decide (0<n)
theorem l7(nf:ByteArray->Nat)(l:List ByteArray):(kU nf l).length<=l.length:=by
 unfold kU;have:=List.length_filter_le (fun n=>decide (0<n)) (l.map nf);rwa [WZ]at this
theorem Kj(nf:ByteArray->Nat)(l:List ByteArray)(k:Nat)(hk:k<l.length)(h:0<nf l[k]):kU nf (l.take k)++[nf l[k]]=kU nf (l.take (k+1)):=by
 unfold kU;rw[YA,WW hk,Xi,YS];simp[h]
theorem GR(nf:ByteArray->Nat)(l:List ByteArray)(k:Nat)(hk:k<l.length)(h:¬0<nf l[k]):kU nf (l.take k)=kU nf (l.take (k+1)):=by
 unfold kU;rw[YA,WW hk,Xi,YS];simp[h]
theorem J2(l:List ByteArray)(k:Nat)(hk:k<l.length):(l.map encS)[k]? =some (.string l[k]):=by
 rw[XZ,WW hk];rfl
structure Mk where
 lp:Nat
 pt:Option Addr
 a:Option Addr
 c:Nat
 all:List BS
 fp:List Nat
 s:DS
 t:LS
 e:Int
def IC(pre:ByteArray)(s:DS)(cf:Nat->List UInt8)(m:List Nat)(M K:Nat)(y:Mk):Prop:=
 y.s.Ok (M+1100) K/\((y.e=4/\y.pt=none/\∃(k:Nat)(hk:k<m.length),(eh (cf m[k]) (eF cf (m.take k) jV).bg (eF cf (m.take k) jV).nx).2.1<(cf m[k]).length)∨(y.e=0/\y.pt=some ⟨y.lp,0,none⟩/\
   ((mF cf m m.length/\y.s=s/\(∃ga gc,y.t=oz ga gc m (eF cf m jV))/\y.all.map BS.l=kB cf m jV)∨
    (∃(k:Nat)(hk:k<m.length),mF cf m k/\(eh (cf m[k]) (eF cf (m.take k) jV).bg (eF cf (m.take k) jV).nx).2.1<(cf m[k]).length/\Live y.s/\y.s.room=s.room/\y.s.cw=[]/\cont y.s.e1=cont y.s.e2/\
      cont y.s.e2=lG pre (cont s.e2) m k (k+1) ((cf m[k]).take (eh (cf m[k]) (eF cf (m.take k) jV).bg (eF cf (m.take k) jV).nx).2.1)/\(∃ga gc,y.t=oz ga gc (m.take (k+1)) (eF cf (m.take (k+1)) jV))/\y.all.map BS.l=kB cf (m.take (k+1)) jV))))
theorem Hc{lp:Nat}{ns:List Nat}(hp:ns.Perm m)(h:St w0 (row (.slice ga ns.length gc) 3 1 (m.flatMap lq)::bm lp p pre (oz ga gc ns jV)::H) w):St w0 (row (.slice ga m.length gc) 3 1 (m.flatMap lq)::bm lp p pre (oz ga gc m jV)::H) w:=by
 have h2:St w0 (row (.slice ga ns.length gc) 3 1 (m.flatMap lq)::aF lp (.cells (cH.mk (some ⟨p,0,none⟩) pre ⟨ga,ns.length,gc⟩ ((0:Nat):Int) ((1:Nat):Int) false).cells 147 (0,0))::H) w:=h;rw[hp.length_eq]at h2;exact h2
theorem vN(h:St w0 (row (.slice ga m.length gc) 3 1 (m.flatMap lq)::H) w):St w0 (lI (.slice ga m.length gc) 3 (m.map encI)::H) w:=by
 have h2:=St.Pb h;rw[L6]at h2;exact h2
theorem wh{all o:List BS}{fa fo:List Nat}{x:SA}(h:St w0 (x::dX fa ⟨all,[],[]⟩::dX fo ⟨o,[],[]⟩::H) w):St w0 (x::dX (fa++fo) ⟨all++o,[],[]⟩::H) w:=by
 have h1:St w0 (dX fa ⟨all,[],[]⟩::dX fo ⟨o,[],[]⟩::x::H) w:=cJ.st (H:=x::dX fa ⟨all,[],[]⟩::dX fo ⟨o,[],[]⟩::H) inferInstance w h;exact cJ.st (H:=dX (fa++fo) ⟨all++o,[],[]⟩::x::H) inferInstance w h1.j3
attribute [local irreducible] cv bL fW eF kB eh bS kU lG nC mF fH
theorem KM{nf:ByteArray->Nat}{nl:List ByteArray}(h:St w0 (bm b29 p pre (oz none 0 [] jV)::row (.slice none 0 0) 3 1 []::H) w):St w0 (bm b29 p pre (oz none 0 (kU nf (nl.take 0)) jV)::row (.slice none (kU nf (nl.take 0)).length 0) 3 1 ((kU nf (nl.take 0)).flatMap lq)::H) w:=by
 have e:kU nf (nl.take 0)=[]:=by rw[XD];unfold kU;rfl
 rw[e];exact h
theorem KP(h:St w0 (bm b29 p pre (oz ga gc m jV)::row (.slice ga m.length gc) 3 1 (m.flatMap lq)::DS.H p s H) w):St w0 (row (.slice none ([]:List BS).length 0) 47 1 (([]:List BS).map BS.val)::dX [] ⟨[],[],[]⟩::bm b29 p pre (oz ga gc m (eF cf (m.take 0) jV))::row (.slice ga m.length gc) 3 1 (m.flatMap lq)::DS.H p s H) w:=by
 rw[Lp];have h1:=(h.cT 47 1);have h2:St w0 (dX [] ⟨[],[],[]⟩::row (.slice none 0 0) 47 1 []::bm b29 p pre (oz ga gc m jV)::row (.slice ga m.length gc) 3 1 (m.flatMap lq)::DS.H p s H) w:=h1.iw;exact cJ.st (H:=dX [] ⟨[],[],[]⟩::row (.slice none 0 0) 47 1 []::bm b29 p pre (oz ga gc m jV)::row (.slice ga m.length gc) 3 1 (m.flatMap lq)::DS.H p s H) (H':=row (.slice none 0 0) 47 1 []::dX [] ⟨[],[],[]⟩::bm b29 p pre (oz ga gc m jV)::row (.slice ga m.length gc) 3 1 (m.flatMap lq)::DS.H p s H) inferInstance w h2
theorem Je{t:LS}{q:Prop}(h:St w0 (bm b29 p pre t::bP t::DS.H p s H) w)(hq:q):St w0 (pu q::bm b29 p pre t::bP t::row (.slice none ([]:List BS).length 0) 47 1 (([]:List BS).map BS.val)::dX [] ⟨[],[],[]⟩::DS.H p s H) w:=by
 have h1:=(h.cT 47 1);have h2:St w0 (dX [] ⟨[],[],[]⟩::row (.slice none 0 0) 47 1 []::bm b29 p pre t::bP t::DS.H p s H) w:=h1.iw;exact(cJ.st (H:=dX [] ⟨[],[],[]⟩::row (.slice none 0 0) 47 1 []::bm b29 p pre t::bP t::DS.H p s H) (H':=bm b29 p pre t::bP t::row (.slice none 0 0) 47 1 []::dX [] ⟨[],[],[]⟩::DS.H p s H) inferInstance w h2).aC hq
theorem Fi{M K:Nat}(hok:s.Ok M K)(hM:M<=800000)(hK:K<=1000000000)(rT:2000000<=K)(hlv:Live s)(hs:pre.size<=8)(hsm:pre.size<=maxLen)(hf:tU pre=true)(hkz:∀e∈s.e2,e.k.size<=maxLen){nf:ByteArray->Nat}(hnum:∀nm∈(bS s.e2),∀H2:List SA,CT prog w0 H2 68 [.string pre,.string nm] (α:=Unit) (fun _=> .int .i64 (nf nm:Int)) (fun _=>H2))(hp:(kU nf (bS s.e2)).Perm m)(hsrt:m.Pairwise (· < ·))(h1:∀n∈m,n<100)(hnl:(bS s.e2).length<=1000)(hcf:∀n∈m,cont s.e2 (fW pre n)=some (cf n))(hsz:∀n∈m,(cf n).length<=2000000)(htot:∀k,(kB cf (m.take k) jV).length<=1000000):CT prog w0 (DS.H p s H) 26 [.pointer (some ⟨p,0,none⟩),.string pre] (α:=Mk) (fun y=> .tuple #[.pointer y.pt,.slice y.a y.all.length y.c,.int .i64 y.e]) (fun y=>pu (IC pre s cf m M K y)::bm y.lp p pre y.t::bP y.t::row (.slice y.a (y.all).length y.c) 47 1 ((y.all).map BS.val)::dX y.fp ⟨y.all,[],[]⟩::DS.H p y.s H):=by
 refine aiw ?_;refine Zm ?_;refine Zb ?_;refine ze rfl (zc (JY hsm) rfl (fun x24=>?_));rw[hf];refine gG ?_;refine Zb ?_;refine ae9 ?_;refine ze rfl (aZ rfl (fun b29=>gG ?_));refine cu (DS.H p s (bm b29 p pre (oz none 0 [] jV)::H)) ?_;refine ze rfl (zc (CB (s:=s) hok om hkz) rfl (fun x31=>gG ?_));refine bH [9,10,33,34,35,36,37,38,39,40,41,42,43,44,45,46,47,48,49,50,51,52] [33] (fun us H'=>∃(k:Nat)(ga:Option Addr)(gc:Nat),us=[.int .i64 (k:Int)]/\bm b29 p pre (oz ga gc (kU nf ((bS s.e2).take k)) jV)::row (.slice ga (kU nf ((bS s.e2).take k)).length gc) 3 1 ((kU nf ((bS s.e2).take k)).flatMap lq)::row (.slice x31.a (bS s.e2).length x31.c) 9 1 ((bS s.e2).map encS)::DS.H p s H=H'/\k<=(bS s.e2).length) (fun us=>match us with| .int _ i::_=>(bS s.e2).length-i.toNat|_=>0) ⟨0,none,0,rfl,rfl,om⟩ (fun w hw=>by
  have h1:=(SB w hw:St w0 (bm b29 p pre (oz none 0 [] jV)::row (.slice x31.a (bS s.e2).length x31.c) 9 1 ((bS s.e2).map encS)::DS.H p s H) w).cT 3 1;exact KM (cJ.st (H:=row (.slice none 0 0) 3 1 []::bm b29 p pre (oz none 0 [] jV)::row (.slice x31.a (bS s.e2).length x31.c) 9 1 ((bS s.e2).map encS)::DS.H p s H) (H':=bm b29 p pre (oz none 0 [] jV)::row (.slice none 0 0) 3 1 []::row (.slice x31.a (bS s.e2).length x31.c) 9 1 ((bS s.e2).map encS)::DS.H p s H) inferInstance w h1)) ?_
 rintro τ0 _ _ ⟨k,ga,gc,rfl,rfl,hk0⟩ _;refine gG ?_;refine yC ?_ ?_<;>intro h34 p34<;>try simp only at p34
 ·have hk:k<(bS s.e2).length:=om;refine gG ?_;refine zq (bj rfl rfl om so) rfl (zq (bC (.string (bS s.e2)[k]) rfl (J2 (bS s.e2) k hk)) rfl ?_);refine gG ?_;refine ze rfl (zc (hnum _ (W1 hk) _) rfl (fun x39=>gG ?_));refine yC ?_ ?_<;>intro h41 p41<;>try simp only at p41
  ·refine gG ?_;refine ze rfl (cr (m:=([nf (bS s.e2)[k]]:List Nat).length) [.int .i64 ((nf (bS s.e2)[k]:Nat):Int)] (([nf (bS s.e2)[k]]:List Nat).flatMap lq) rfl rfl rfl rfl abY rfl rfl (fun a48 c48=>?_));refine ze rfl (cp lq (sv:= .slice _ _ _) (xv:= .slice _ _ _) (xs:=(kU nf ((bS s.e2).take k))) (ys:=([nf (bS s.e2)[k]]:List Nat)) (fun _=>rfl) (fun _=>rfl) rfl rfl (by have:=l7 nf ((bS s.e2).take k);rw[Xj]at this;simp;omega) rfl rfl (fun a49 c49=>?_));rw[Kj nf (bS s.e2) k hk om];refine gG ?_;refine adx ?_;exact aeZ
  rw[GR nf (bS s.e2) k hk om];refine gA ?_;exact aeZ
 have hkn:k=(bS s.e2).length:=om;have htk:(bS s.e2).take k=(bS s.e2):=by rw[hkn];exact XE
 rw[htk];refine gG ?_;refine Za ?_;refine cu (row (.slice ga (kU nf (bS s.e2)).length gc) 3 1 ((kU nf (bS s.e2)).flatMap lq)::bm b29 p pre (oz ga gc (kU nf (bS s.e2)) jV)::DS.H p s H) ?_;refine ze rfl (zc (Mi (l:=(kU nf (bS s.e2))) (m:=m) (by have:=l7 nf (bS s.e2);omega) hp (hsrt.imp Nat.le_of_lt)) rfl (fun x57=>?_));refine ez (fun w hw=>Hc hp hw) ?_;refine gG ?_;refine bH [4,5,6,11,12,13,14,15,16,17,18,63,64,65,66,67,68,69,70,71,72,73,74,75,76,77,78,79,80,81,82,83,84,85,86,87,88,89,90,91,92,93,94,95,96,97,98,99,100,101,102] [63,11] (fun us H'=>∃(k:Nat)(aa:Option Addr)(ac:Nat)(all:List BS)(fa:List Nat),us=[.int .i64 (k:Int),.slice aa all.length ac]/\row (.slice aa (all).length ac) 47 1 ((all).map BS.val)::dX fa ⟨all,[],[]⟩::bm b29 p pre (oz ga gc m (eF cf (m.take k) jV))::row (.slice ga m.length gc) 3 1 (m.flatMap lq)::DS.H p s H=H'/\k<=m.length/\(kB cf (m.take k) jV=all.map BS.l)/\(mF cf m k)) (fun us=>match us with| .int _ i::_=>m.length-i.toNat|_=>0) ⟨0,none,0,[],[],rfl,rfl,om,KD _ _ _,G6 _ _⟩ (fun w hw=>KP (SB w hw)) ?_;rintro τ1 _ _ ⟨k,aa,ac,all,fa,rfl,rfl,hk0,hall,hwh⟩ _;refine gG ?_;refine yC ?_ ?_<;>intro h64 p64<;>try simp only at p64
 ·have hk:k<m.length:=om;have hml:m.length<=1000:=by have:=hp.length_eq;have:=l7 nf (bS s.e2);omega
  refine gG ?_;refine zq (bj rfl rfl om (by rw[CZ];omega)) rfl (zq (bC (.int .i64 ((m[k]:Nat):Int)) rfl (CV m k hk)) rfl ?_);refine gG ?_;have hcfk:=hcf _ (W1 hk);refine agc ?_;refine ze rfl (zc (qJ (t:=(oz ga gc m (eF cf (m.take k) jV))) om (i:=m[k]) (h1 _ (W1 hk))) rfl (fun x72=>?_));refine cu (DS.H p s (bm b29 p pre (oz ga gc m (eF cf (m.take k) jV))::row (.slice ga m.length gc) 3 1 (m.flatMap lq)::row (.slice aa (all).length ac) 47 1 ((all).map BS.val)::dX fa ⟨all,[],[]⟩::H)) ?_;refine ze rfl (zc (uz (p:=p) (s:=s) hok om om (nm:=fW pre m[k])) rfl (fun x73=>?_));rw[show(gl s.e2 (fW pre m[k])).l=(cf m[k])from by rw[rK,hcfk];rfl];refine gG ?_;refine agc ?_;refine ze rfl (zc (Mm (t:=(oz ga gc m (eF cf (m.take k) jV))) (b:=⟨x73.a,x73.c,(cf m[k])⟩) (by have:=hsz _ (W1 hk);show(cf m[k]).length<=4000000000;omega) (vR cf (m.take k) jV dc)) rfl (fun x79=>?_));refine aV (fun h79=>?_);have hat:x79.at_<=(cf m[k]).length:=by have h:=(tE (cf m[k]) (eF cf (m.take k) jV).bg (vR cf (m.take k) jV dc)).1;rw[h79]at h;exact h
  have hrec:kB cf (m.take (k+1)) jV=(all++x79.out).map BS.l:=by rw[vb cf m jV k hk,h79,Xi,hall]
  have hlen:=congrArg List.length hrec;rw[WZ]at hlen;have htk:=htot (k+1);rw[hlen,WX]at htk;have hstep:eF cf (m.take (k+1)) jV=⟨x79.at_,x79.nx,x79.bg⟩:=by rw[wy cf m jV k hk];unfold Ii;rw[h79]
  refine gG ?_;refine ze rfl (js (sv:= .slice _ _ _) (xv:= .slice _ _ _) (xs:=all.map BS.val) (news:=x79.out.map BS.val) rfl rfl (fun u hu=>by obtain⟨z,-,rfl⟩:=Xd.1 hu;rfl) (by simp only[WZ];omega) rfl (fun a84 c84=>?_));rw[←Xi,WZ];refine gG ?_;refine aax ?_;refine yC ?_ ?_<;>intro h92 p92<;>try simp only at p92
  ·refine gG ?_;refine zq (kg x79.at_ rfl rfl hat) rfl ?_;refine ez (fun w hw=>(cJ.st inferInstance w (vN (m:=m) (ga:=ga) (gc:=gc) (H:=bm b29 p pre (oz ga gc m ⟨x79.at_,x79.nx,x79.bg⟩)::DS.H p s (row (.slice x73.a (cf m[k]).length x73.c) 5 1 (aE (cf m[k]))::row (.slice a84 (all++x79.out).length c84) 47 1 ((all++x79.out).map BS.val)::dX x79.fo ⟨x79.out,[],[]⟩::dX fa ⟨all,[],[]⟩::H)) (SB w hw)):St w0 (bm b29 p pre (oz ga gc m ⟨x79.at_,x79.nx,x79.bg⟩)::bP (oz ga gc m ⟨x79.at_,x79.nx,x79.bg⟩)::DS.H p s (row (.slice x73.a (cf m[k]).length x73.c) 5 1 (aE (cf m[k]))::row (.slice a84 (all++x79.out).length c84) 47 1 ((all++x79.out).map BS.val)::dX x79.fo ⟨x79.out,[],[]⟩::dX fa ⟨all,[],[]⟩::H)) w)) ?_;refine ze rfl (zc (NS (t:=(oz ga gc m ⟨x79.at_,x79.nx,x79.bg⟩)) (s:=s) hok om hK rT hlv hs (by have:=hp.length_eq;have:=l7 nf (bS s.e2);show m.length<=1000;omega) (k:=k) hk h1 (hsrt.imp Nat.ne_of_lt) (fun n hn=>oP (hcf n hn)) (g:=(⟨x73.a,x73.c,(cf m[k]).take x79.at_⟩:BS)) (by show((cf m[k]).take x79.at_).length<=2000000;rw[Xj];have:=hsz _ (W1 hk);omega)) rfl (fun x98=>?_));refine aV (fun h98=>?_);refine gG ?_;refine yC ?_ ?_<;>intro h100 p100<;>try simp only at p100
   ·obtain⟨hok98,h98e⟩:=h98;obtain⟨he0,-⟩|he4:=h98e.symm
    · exact absurd he0 p100
    refine gG ?_;refine Zd ?_;exact zX (⟨b29,none,none,0,[],[],x98.1,x98.2.1,x98.2.2⟩:Mk) [_,_,_] results26 ⟨rfl,rfl,rfl,trivial⟩ rfl (fun w hw=>Je (SB w hw) ⟨hok98.mono adt (W8 _),.inl ⟨he4,rfl,k,hk,by rw[h79];show x79.at_<_;omega⟩⟩)
   obtain⟨hok98,h98e⟩:=h98;obtain he4|⟨he0,hlv98,hr98,hp98,hq98,hc98,ht98⟩:=h98e
   · exact absurd he4 om
   refine gG ?_;refine Zs ?_;refine zW (zE (zx (zS (zR (zq (zm (.pointer _) rfl) rfl (zq (zm (.slice _ _ _) rfl) rfl (zq (za (.pointer _) rfl) rfl ?_)))))));refine zq (za (.slice _ _ _) rfl) rfl (zq (za (.int .i64 _) rfl) rfl (zz (zx (zQ ?_))));exact aaw
  have hwk:mF cf m (k+1):=AA hwh hk (by rw[h79];show x79.at_=_;omega);refine gA ?_;exact xl ⟨k+1,a84,c84,all++x79.out,fa++x79.fo,rfl,rfl,om,hrec,hwk⟩ (hH:=fun w hw=>(by rw[hstep];exact cJ.st inferInstance w (wh (all:=all) (o:=x79.out) (fa:=fa) (fo:=x79.fo) (x:=row (.slice a84 (all++x79.out).length c84) 47 1 ((all++x79.out).map BS.val)) (H:=bm b29 p pre (oz ga gc m ⟨x79.at_,x79.nx,x79.bg⟩)::row (.slice ga m.length gc) 3 1 (m.flatMap lq)::DS.H p s H) (SB w hw))))
 have hkn2:k=m.length:=om;have htk2:m.take k=m:=by rw[hkn2];exact XE
 rw[htk2]at hall ⊢;rw[hkn2]at hwh;refine gG ?_;refine Za ?_;exact aaw
end
end Go.Proofs.YtmbfimckmfnnjaaGreatDoor
