/- Steps of the proof of a law. -/
import Derived.Test.YtmbfimckmfnnjaaGreatDoorQ39
set_option maxRecDepth 100000
set_option maxHeartbeats 1000000
set_option linter.unusedSimpArgs false
set_option linter.unusedVariables false
namespace Go.Proofs.YtmbfimckmfnnjaaGreatDoor
open Go.RowKit Go.Sx Go.Proofs.Tryz
section
variable {s s':DS} {cl:List af} {k c:Nat} {t:LS} {v:af} {fs:Nat->Nat} {rc:Nat->List (List UInt8)} {e:Int} {y:cb}
theorem CK:∀(ns:List Nat)(a b k:Nat),Fs fs rc ns a b->∃b',Fs fs rc (ns.take k) a b'/\b'<=b/\∀hk:k<ns.length,fs ns[k]=b'
 |[],a,b,k,h=>⟨a,by rw[List.take_nil];rfl,Nat.le_of_eq h,fun hk=>absurd hk (Ya k)⟩
 |n::ns,a,b,0,h=>⟨a,rfl,ve h,fun _=>h.1⟩
 |n::ns,a,b,k+1,h=>by
   obtain⟨b',h1,h2,h3⟩:=CK ns (a+(rc n).length) b k h.2;exact⟨b',⟨h.1,h1⟩,h2,fun hk=>h3 abf⟩
theorem Fh{cf tl:Nat->List UInt8}:∀(ns:List Nat)(x:Sc)(a b:Nat),Fs fs rc ns a b->(x.bg=true->x.nx=a)->1<=a->b<18446744073709551615->
   (∀n∈ns,cf n=bL (fs n) (rc n)++tl n/\fl (tl n)=none)->(∀n∈ns,∀l∈rc n,l.length<=65536)->kB cf ns x=ns.flatMap rc/\((eF cf ns x).bg=true->(eF cf ns x).nx=b)
 |[],x,a,b,h,hx,_,_,_,_=>⟨rfl,fun hb=>(hx hb).trans h⟩
 |n::ns,x,a,b,h,hx,ha,hb,hc,hs=>by
   have hle:=ve h.2;obtain⟨h1,h2⟩:=hc n (XF ..);have e:=vF (rc n) (fs n) x.bg x.nx (tl n) (by rw[h.1];exact ha) (by rw[h.1];omega) (hs n (XF ..)) (by rw[h.1];exact hx) h2;rw[←h1]at e;obtain⟨i1,i2⟩:=Fh ns (Ii x (cf n)) (a+(rc n).length) b h.2 (by
     unfold Ii;rw[e];show(if (rc n).length=0 then x.bg else true)=true->(if (rc n).length=0 then x.nx else fs n+(rc n).length)=a+(rc n).length;by_cases h0:(rc n).length=0
     · rw[if_pos h0,if_pos h0,h0];exact hx
     · rw[if_neg h0,if_neg h0,h.1];exact fun _=>rfl) om hb (fun m hm=>hc m (Xa _ hm)) (fun m hm=>hs m (Xa _ hm))
   refine⟨?_,i2⟩;show(eh (cf n) x.bg x.nx).1++kB cf ns (Ii x (cf n))=_;rw[e,i1,Xw]
theorem Cm{α:Type}{l:List α}{x:α}(h:x∈l.take k):x∈l:=Yd h
theorem Li{cf tl:Nat->List UInt8}{ns:List Nat}{a b:Nat}(h:Fs fs rc ns a b)(ha:1<=a)(hb:b<18446744073709551615)(hc:∀n∈ns,cf n=bL (fs n) (rc n)++tl n/\fl (tl n)=none)(hs:∀n∈ns,∀l∈rc n,l.length<=65536)(k:Nat):kB cf (ns.take k) jV=(ns.take k).flatMap rc/\∀hk:k<ns.length,(eh (cf ns[k]) (eF cf (ns.take k) jV).bg (eF cf (ns.take k) jV).nx).2.1=(bL (fs ns[k]) (rc ns[k])).length:=by
 obtain⟨b',h1,h2,h3⟩:=CK ns a b k h;obtain⟨i1,i2⟩:=Fh (cf:=cf) (tl:=tl) (ns.take k) jV a b' h1 (fun h=>by cases h) ha om (fun n hn=>hc n (Cm hn)) (fun n hn=>hs n (Cm hn));refine⟨i1,fun hk=>?_⟩;have hm:=W1 hk;obtain⟨e1,e2⟩:=hc _ hm;have hbb:=yh h _ hm;have e:=vF (rc ns[k]) (fs ns[k]) (eF cf (ns.take k) jV).bg (eF cf (ns.take k) jV).nx (tl ns[k]) om om (hs _ hm) (fun hq=>by rw[i2 hq,h3 hk]) e2;rw[←e1]at e;rw[e]
theorem BN{B:Nat}(hB:B<=4294967000):∀(ls:List (List UInt8))(n:Nat),n+ls.length<18446744073709551616->(∀l∈ls,l.length<=B)->(bL n ls).length<=(B+28)*ls.length
 |[],n,_,_=>by simp[bL]
 |l::ls,n,hn,hl=>by
   have h1:=(gx n ahK l (by have:=hl l (XF ..);omega)).1;have h2:=BN hB ls (n+1) ahK (fun x hx=>hl x (Xa _ hx));have h3:=hl l (XF ..);simp only[bL,WX,Xq];rw[Nat.mul_add,Yp];omega
def Pz(pre nm:ByteArray):Nat:=((List.range 100).find? fun n=>decide (nm=fW pre n)).getD 0
theorem Ns{pre:ByteArray}{n:Nat}(hn:n<100):Pz pre (fW pre n)=n:=by
 unfold Pz;rw[vO (fun i=>decide (fW pre n=fW pre i)) (List.range 100) n (by simpa using hn) (by
   rw[List.any_eq_false];intro i hi;have hi2:i<n:=by
     have h1:=List.mem_take_iff_getElem.1 hi;obtain⟨j,hj,he⟩:=h1;simp at he hj;omega
   simp only[decide_eq_true_eq];intro he;have:=mb hn om he;omega) sm]
 simp
def iA(cl:List af):List (List UInt8):=cl.map fun v=>fY v.abs
theorem Ee(L:List af)(h:∀i (hi:i<L.length),fh (L.take i) L[i]=0):ir (gb (L.map af.abs)) L:=by
 have hk:∀k,k<=L.length->ir (gb ((L.map af.abs).take k)) (L.take k):=by
   intro k
   induction k with
   |zero=>intro _;rw[XD,XD];exact ir.start
   |succ k ih=>
     intro hk;have h1:=pS (v:=L[k]) (ih om);rw[h k om]at h1;have h2:=h1.2.1 h1.1;rw[A6 _ _ (by simpa using(by omega:k<L.length)),Xf om,XP];exact h2
 have:=hk L.length (W8 _)
 rwa [XE,W7 sm]at this
theorem uS(hp:(cU v.abs).2=0)(hn:v.kind=1∨¬v.slot<bZ cl):fh cl v=0:=by
 unfold fh;rw[if_neg (fun h=>h hp),if_neg (by rintro⟨h1,h2⟩;rcases hn with h|h;omega;exact h h2)]
theorem Gr(h:fh cl v=0):(cU v.abs).2=0:=by
 refine Yr fun hn=>?_;unfold fh at h;rw[if_pos hn]at h;cases h
theorem qO(h:∀i (hi:i<cl.length),fh (cl.take i) cl[i]=0)(hv:fh cl v=0):∀i (hi:i<(cl++[v]).length),fh ((cl++[v]).take i) (cl++[v])[i]=0:=fun i hi=>by
 by_cases hic:i<cl.length
 · rw[Yy hic,X4 om];exact h i hic
 · obtain rfl:i=cl.length:=by simp at hi;omega
   rw[List.getElem_append_right (W8 _),Y5];simpa using hv
theorem JX.any{a:ca}(h:JX s a s' e)(hg:eQ s.e2 c):(e≠0/\s'.down=true/\s'.e1=s.e1/\s'.e2=s.e2/\s'.cw=s.cw)∨(e=0/\s'.down=false/\s'.e1=s.e1/\s'.cw=s.cw++[a]/\cont s'.e2=jY (cont s.e2) a):=by
 rcases h with⟨-,he,rfl⟩|⟨-,he,x,pa,pc,fp,hx,rfl⟩
 · exact .inl ⟨by rw[he];decide,rfl,rfl,rfl,rfl⟩
 · exact .inr ⟨he,rfl,rfl,rfl,vI hg hx _⟩
theorem uq.any{k:Int}{less:Nat}{nm:ByteArray}{b:List UInt8}(h:uq k less s nm b s' e)(hg:eQ s.e2 c):(e≠0/\s'.e1=s.e1/\s'.e2=s.e2/\s'.cw=s.cw/\(s'.down=true∨s'.down=s.down))∨
   (e=0/\s.down=false/\s'.down=false/\s'.e1=s.e1/\∃cl:BS,cl.l=b/\s'.cw=s.cw++[⟨k,nm,⟨#[]⟩,cl⟩]/\cont s'.e2=jY (cont s.e2) ⟨k,nm,⟨#[]⟩,cl⟩):=by
 rcases h with⟨-,he,rfl⟩|⟨-,-,he,rfl⟩|⟨-,-,-,he,rfl⟩|⟨hd,-,-,cl,fp,hcl,hdo⟩
 · exact .inl ⟨by rw[he];decide,rfl,rfl,rfl,.inr rfl⟩
 · exact .inl ⟨by rw[he];decide,rfl,rfl,rfl,.inr rfl⟩
 · exact .inl ⟨by rw[he];decide,rfl,rfl,rfl,.inr rfl⟩
 · rcases hdo.any (c:=c) hg with⟨h1,h2,h3,h4,h5⟩|⟨h1,h2,h3,h4,h5⟩
   · exact .inl ⟨h1,h3,h4,h5,.inl h2⟩
   · exact .inr ⟨h1,hd,h2,h3,cl,hcl,h4,h5⟩
theorem kS.any{t':LS}{r:List UInt8}(h:kS eA s t r s' t' e)(hr:r.length<=40000)(hnx:t.nx<=1000000)(hsz:t.gi<=10000000)(hg:eQ s.e2 c):(e≠0/\t'=t/\s'.e1=s.e1/\s'.e2=s.e2/\s'.cw=s.cw/\(s'.down=true∨s'.down=s.down))∨
   (e=0/\s.down=false/\s'.down=false/\s'.e1=s.e1/\t'.nx=t.nx+1/\t'.gi<=10000000/\∃a,yX eA t.av t.nx a r/\s'.cw=s.cw++[a]/\cont s'.e2=jY (cont s.e2) a/\t'.av=(if a.kind=1 then t.av else t.av++[fq t.av])):=by
 have htl:=(gx t.nx om r om).1;rcases h with⟨-,hb,h1,h2⟩|⟨h0,ha,h1,h2⟩
 · rw[nd]at hb
   rcases hb.any hg with⟨q1,q2,q3,q4,q5⟩|⟨q1,q2,q3,q4,cl,q5,q6,q7⟩
   · exact .inl ⟨q1,h1 q1,q2,q3,q4,q5⟩
   · obtain⟨g1,g2,g3,-⟩:=h2 q1
     rw[nd]at g2;exact .inr ⟨q1,q2,q3,q4,g3,om,_,.inr ⟨rfl,rfl,q5⟩,q6,q7,by rw[g1,if_neg (show ¬((2:Int)=1) by decide)]⟩
 · rcases ha.any hg with⟨q1,q2,q3,q4,q5⟩|⟨q1,q2,q3,q4,cl,q5,q6,q7⟩
   · exact .inl ⟨q1,h1 q1,q2,q3,q4,q5⟩
   · obtain⟨g1,g2,g3,-⟩:=h2 q1
     have h3:¬2048<=t.gi:=fun h=>h0 (.inr h);exact .inr ⟨q1,q2,q3,q4,g3,om,_,.inl ⟨fun h=>h0 (.inl h),rfl,rfl,q5⟩,q6,q7,by rw[g1,if_pos (show((1:Int)=1)from rfl)]⟩
def NT(s:DS)(t:LS)(cl:List af)(k:Nat):Prop:=
 (s.down=false/\s.cw=[]/\cont s.e2=cont s.e1/\∃fs rc,kC eA (cont s.e1) t.av fs rc [] (iA cl) t.nx)∨
 (s.down=true/\∃ex:Option af,EA eA s (iA cl) (ex.map fun v=>fY v.abs) k/\∀v,ex=some v->fh cl v=0/\(cU v.abs).1.length<=30000)
theorem EA.mono{pre:ByteArray}{all:List (List UInt8)}{ex:Option (List UInt8)}{B B':Nat}(h:EA pre s all ex B)(hB:B<=B')(h1:s'.e1=s.e1)(h2:s'.cw=s.cw):EA pre s' all ex B':=by
 obtain⟨av,fs,rc,nx,q1,q2,q3,q4,q5⟩:=h;exact⟨av,fs,rc,nx,by rw[h1];exact q1,om,om,om,by rw[h2];exact q5⟩
structure VI(s:DS)(t:LS)(y:cb)(cl:List af)(k:Nat):Prop where
 lg:NT s t cl k
 AH:y.Ok
 same:ir y.abs cl
 nW:∀i (hi:i<cl.length),fh (cl.take i) cl[i]=0
 Pu:t.av.length<=k
 last:bY t.av<=k
 gi:t.gi<=10000000
 nx:t.nx<=1+k
 len:cl.length<=k
 short:∀v∈cl,(cU v.abs).1.length<=30000
theorem NT.mono{k':Nat}(h:NT s t cl k)(hk:k<=k'):NT s t cl k':=by
 rcases h with h|⟨h1,ex,h2,h3⟩
 · exact .inl h
 · exact .inr ⟨h1,ex,h2.mono hk rfl rfl,h3⟩
theorem VI.mono{k':Nat}(h:VI s t y cl k)(hk:k<=k'):VI s t y cl k':=
 ⟨h.lg.mono hk,h.AH,h.same,h.nW,by have:=h.Pu;omega,by have:=h.last;omega,h.gi,by have:=h.nx;omega,by have:=h.len;omega,h.short⟩
theorem NT.stay(h:NT s t cl k)(h1:s'.e1=s.e1)(h2:s'.e2=s.e2)(h3:s'.cw=s.cw)(h4:s'.down=true∨s'.down=s.down)(hs:t.av.length<=k)(hl:bY t.av<=k)(hn:t.nx<=1+k):NT s' t cl k:=by
 rcases h with⟨q1,q2,q3,fs,rc,q4⟩|⟨q1,ex,q2,q3⟩
 · rcases h4 with h4|h4
   · exact .inr ⟨h4,none,⟨t.av,fs,rc,t.nx,by rw[h1];exact q4,hl,hs,hn,.inl ⟨by rw[h3];exact q2,rfl⟩⟩,fun v h=>by cases h⟩
   · exact .inl ⟨by rw[h4];exact q1,by rw[h3];exact q2,by rw[h1,h2];exact q3,fs,rc,by rw[h1];exact q4⟩
 · exact .inr ⟨by rcases h4 with h4|h4;exact h4;rw[h4];exact q1,ex,q2.mono (W8 _) h1 h3,q3⟩
theorem VI.step{fu:Bool}{M K:Nat}{z:Jn}(h:VI s t y cl k)(hk:k<=40)(hok:s.Ok M K)(hK:2000000<=K)(hv:JU fu t s y v.abs M K z):VI z.s z.t z.y (if z.e=0 then cl++[v]else cl) (k+1)/\z.s.Ok (M+1) K:=by
 have hseg:=h.Pu;have hlast:=h.last;have hnx:=h.nx;have hsz:=h.gi;rcases hv with⟨he,-,h2,h3,h4,-⟩|⟨-,hput,hpl,hnew,hc⟩
 · rw[if_neg he,h2,h3,h4]
   exact⟨h.mono om,hok.mono om om⟩
 · have hrl:(fY v.abs).length<=40000:=by rw[jl];omega
   have hslot:y.k.slot=bZ cl:=h.same.slot;have htk:fh cl v=0:=uS hput (by rw[←hslot];exact hnew);rcases hc with⟨he,ha,-,h4⟩|⟨s1,ha,hok1,hsy,-,hend⟩
   · rw[if_neg he,h4]
     rcases ha.any hrl om hsz hok.gR with⟨-,q1,q2,q3,q4,q5⟩|⟨q,-⟩
     · rw[q1]
       have hst:=h.lg.stay q2 q3 q4 q5 hseg hlast hnx;exact⟨VI.mono ⟨hst,h.AH,h.same,h.nW,hseg,hlast,hsz,hnx,h.len,h.short⟩ om,ha.Ao hok (by have:=(gx t.nx om (fY v.abs) om).1;omega) hK⟩
     · exact absurd q he
   · rcases ha.any hrl om hsz hok.gR with⟨q,-⟩|⟨-,q1,q2,q3,q4,q5,a,q6,q7,q8,q9⟩
     · exact absurd rfl q
     · have hl:s.cw=[]/\cont s.e2=cont s.e1/\∃fs rc,kC eA (cont s.e1) t.av fs rc [] (iA cl) t.nx:=by
         rcases h.lg with⟨-,g⟩|⟨g,-⟩
         · exact g
         · rw[q1]at g;cases g
       obtain⟨g1,g2,fs,rc,g3⟩:=hl;have hsegs:z.t.av.length<=k+1/\bY z.t.av<=k+1:=by
         rw[q9]
         split
         · exact⟨om,om⟩
         · rw[nA];have:=qI t.av;simp;omega
       have hok2:=hsy.ok hok1;rcases hend with⟨d1,d2,d3⟩|⟨d1,d2,d3,d4⟩
       · rw[if_neg (by rw[d2];decide),d3]
         refine⟨⟨.inr ⟨d1,some v,⟨t.av,fs,rc,t.nx,?_,om,om,om,.inr ⟨a,fY v.abs,?_,rfl,q6⟩⟩,fun w hw=>by cases hw;exact⟨htk,hpl⟩⟩,h.AH,h.same,h.nW,hsegs.1,hsegs.2,q5,om,by have:=h.len;omega,h.short⟩,hok2⟩
         · have e1:z.s.e1=s.e1:=by
             rcases hsy with⟨-,hz⟩|⟨-,q1',q2',hz⟩
             · rw[hz];exact q3
             · rw[hz]at d1;cases d1
           rw[e1];exact g3
         · rcases hsy with⟨-,hz⟩|⟨-,q1',q2',hz⟩
           · rw[hz];show s1.cw=[a];rw[q7,g1];rfl
           · rw[hz]at d1;cases d1
       · have hts:=pS (v:=v) h.same
         rw[htk]at hts;have he0:z.e=0:=by rw[d2];exact hts.1
         rw[if_pos he0];have hz2:z.s.e1=s1.e2/\z.s.e2=s1.e2/\z.s.cw=[]:=by
           rcases hsy with⟨-,hz⟩|⟨-,q1',q2',hz⟩
           · rw[hz]at d1;cases d1
           · rw[hz];exact⟨rfl,rfl,rfl⟩
         obtain⟨fs',rc',g4⟩:=g3.act q6 om;refine⟨⟨.inl ⟨d1,hz2.2.2,by rw[hz2.1,hz2.2.1],fs',rc',?_⟩,d3,by rw[d4];exact hts.2.1 hts.1,qO h.nW htk,hsegs.1,hsegs.2,q5,om,by have:=h.len;simp;omega,fun w hw=>?_⟩,hok2⟩
         · rw[hz2.1,q8,g2,q9,q4]
           rw[show iA (cl++[v])=iA cl++[fY v.abs]from by unfold iA;rw[Xi];rfl];exact g4
         · rcases Xc.1 hw with hw|hw
           · exact h.short w hw
           · obtain rfl:w=v:=by simpa using hw
             exact hpl
theorem VI.M4{N M kp:Nat}{dP cut:Int}(h:VI s t y cl k)(hk:k<=41)(hc:lC s N M kp dP cut s'):∃(L:List af)(av:List Nat)(fs:Nat->Nat)(rc:Nat->List (List UInt8))(tl:List UInt8)(nx:Nat),kC eA (cont s'.e2) av fs rc tl (iA L) nx/\(fl tl=none/\tl.length<=40100)/\bY av<=42/\av.length<=42/\nx<=43/\(av.length=0->tl=[])/\
     (∀i (hi:i<L.length),fh (L.take i) L[i]=0)/\L.length<=42/\(∀v∈L,(cU v.abs).1.length<=30000)/\(L=cl∨(s.down=true/\∃v,L=cl++[v]/\fh cl v=0)):=by
 have hh:∃ex:Option af,EA eA s (iA cl) (ex.map fun v=>fY v.abs) k/\(∀v,ex=some v->s.down=true/\fh cl v=0/\(cU v.abs).1.length<=30000):=by
   rcases h.lg with⟨q1,q2,q3,fs,rc,q4⟩|⟨q1,ex,q2,q3⟩
   · exact⟨none,⟨t.av,fs,rc,t.nx,q4,h.last,h.Pu,h.nx,.inl ⟨q2,rfl⟩⟩,fun v h=>by cases h⟩
   · exact⟨ex,q2,fun v hv=>⟨q1,q3 v hv⟩⟩
 obtain⟨ex,hH,hex⟩:=hh;have hlen:=h.len;obtain⟨av,fs,rc,tl,nx,all',g1,g2,g3,g4,g5,g6,g7⟩:=hH.M4 om (fun r hr=>by
   obtain⟨v,hv,rfl⟩:=Yf.1 hr;rw[jl];have:=(hex v hv).2.2;omega) hc
 rcases g7 with rfl|⟨r,hr,rfl⟩
 · exact⟨cl,av,fs,rc,tl,nx,g1,g2,om,om,om,g6,h.nW,om,h.short,.inl rfl⟩
 · obtain⟨v,hv,rfl⟩:=Yf.1 hr
   obtain⟨e1,e2,e3⟩:=hex v hv;refine⟨cl++[v],av,fs,rc,tl,nx,?_,g2,om,om,om,g6,qO h.nW e2,so,fun w hw=>?_,.inr ⟨e1,v,rfl,e2⟩⟩
   · rw[show iA (cl++[v])=iA cl++[fY v.abs]from by unfold iA;rw[Xi];rfl]
     exact g1
   · rcases Xc.1 hw with hw|hw
     · exact h.short w hw
     · obtain rfl:w=v:=by simpa using hw
       exact e3
attribute [local irreducible] cv bL fW bY fq fH fY dS cU eX kB eF bS
end
section
theorem BF:∀ls:List aJ,(ls.flatMap aJ.list).length=ls.length*7
 |[]=>rfl
 |x::l=>by rw[Xw,WX,aJ.ae,BF l,Xq];omega
theorem rz{ls:List aJ}{i:Nat}(h:i<ls.length):0<(ls.flatMap aJ.list).length:=by rw[BF];omega
theorem vH(ls:List aJ)(i:Nat)(h:i<ls.length):(ls.flatMap aJ.list)[i*7+0]? =some (.int .i64 ls[i].aG):=by rw[iL aJ.list 7 aJ.ae ls i 0 h dc];rfl
theorem FJ(ls:List aJ)(i:Nat)(h:i<ls.length):(ls.flatMap aJ.list)[i*7+1]? =some (.int .i64 ls[i].seq):=by rw[iL aJ.list 7 aJ.ae ls i 1 h dc];rfl
attribute [local irreducible] fH fF gP au bh
theorem uJ{w0:World}{H:List SA}{a:Option Addr}{c:Nat}{ls:List aJ}[hr:gy w0 H (.slice a ls.length c) 7 (ls.flatMap aJ.list)](hn:ls.length<=100):CT prog w0 (H) 150 [.slice a ls.length c] (α:=Unit) (fun _=> .bool (Au (ls.map aJ.abs))) (fun _=>H):=by
 refine al func150 rfl ntmps150 rfl (gG ?_);refine yS 8 ?_ ?_<;>intro h8 p8<;>(try simp only at p8)<;>refine gG ?_
 ·refine Zc ?_;have e:Au (ls.map aJ.abs)=false:=by rw[CD,WZ,decide_eq_false om,Bool.and_false]
  rw[e];exact acH
 refine yC ?_ ?_<;>intro h12 p12<;>(try simp only at p12)<;>refine gG ?_
 ·have e:Au (ls.map aJ.abs)=false:=by rw[CD,WZ,decide_eq_false om,Bool.and_false]
  rw[e];exact acH
 refine bH [2,3,4,13,14,15,16,17,18,19,20,21,22,23,24,25,26,27,28,29,30,31,32,33,34,35,36,37,38,39,40,41,42,43,44,45,46,47,48,49,50,51,52,53] [3] (fun us H'=>∃(k:Nat),us=[.int .i64 (k:Int)]/\H=H'/\k<=ls.length/\(L3 [] (ls.map aJ.abs)=L3 ((ls.map aJ.abs).take k) ((ls.map aJ.abs).drop k))) (fun us=>match us with| .int _ i::_=>ls.length-i.toNat|_=>0) ⟨0,rfl,rfl,om,rfl⟩ SB ?_;rintro τ0 _ _ ⟨k,rfl,rfl,hk0,hi⟩ _;refine gG ?_;refine yC ?_ ?_<;>intro h16 p16<;>try simp only at p16
 ·have hk:k<ls.length:=om;have hst:=J3 (ls.map aJ.abs) k abf;have hgk:((ls.map aJ.abs)[k]'abf)=ls[k].abs:=sm;rw[hgk]at hst;refine gG ?_;refine zq (bn rfl rfl om om) rfl ?_;refine adp ?_;refine ze rfl (zc (xG (r:=ls[k])) rfl (fun x23=>gG ?_));refine yC ?_ ?_<;>intro h24 p24<;>try simp only at p24
  ·refine gG ?_;refine Zd ?_;have e:Au (ls.map aJ.abs)=false:=by rw[CD,hi,hst,show bh ls[k].abs=false from by simpa using p24];rfl
   rw[e];exact acH
  have hfk:bh ls[k].abs=true:=by simpa using p24
  refine gG ?_;refine bH [2,4,25,26,27,28,29,30,31,32,33,34,35,36,37,38,39,40,41,42,43,44,45,46,47,48,49,50,51,52,53] [4] (fun us H'=>∃(j:Nat),us=[.int .i64 (j:Int)]/\H=H'/\j<=k/\(sf ((ls.map aJ.abs).take j) ls[k].abs=false)) (fun us=>match us with| .int _ i::_=>k-i.toNat|_=>0) ⟨0,rfl,rfl,om,rfl⟩ SB ?_;rintro τ1 _ _ ⟨j,rfl,rfl,hj0,hb⟩ _;refine gG ?_;refine yC ?_ ?_<;>intro h27 p27<;>try simp only at p27
  ·have hj:j<k:=om;have hjl:j<ls.length:=om;have hgj:((ls.map aJ.abs)[j]'(by simpa using hjl))=ls[j].abs:=sm;have hps:=F8 (ls.map aJ.abs) j (by simpa using hjl) ls[k].abs;rw[hgj,hb,Bool.false_or]at hps;refine gG ?_;refine dw H [(0,true),(1,true),(2,true),(3,true),(4,true),(5,true),(6,true),(7,true),(8,true),(9,true),(10,true),(11,true),(12,true),(13,true),(14,true),(15,true),(16,true),(17,true),(18,true),(19,true),(20,true),(21,true),(22,true),(23,true)] (fun hns0=>?_);refine ahy ?_;refine ads ?_;refine ah7 ?_;refine zd hns0 rfl (cm rfl 7 (rz hjl)) rfl ?_;refine zd hns0 rfl (cE 7 (.int .i64 ls[j].aG) rfl (vH ls j hjl)) rfl ?_;refine ahy ?_;refine ads ?_;refine ah7 ?_;refine zd hns0 rfl (cm rfl 7 (rz hk)) rfl ?_;refine zd hns0 rfl (cE 7 (.int .i64 ls[k].aG) rfl (vH ls k hk)) rfl ?_;refine aiO ?_;refine aeQ ?_;refine yD 41 ?_ ?_<;>intro h41 p41<;>try simp only at p41
   ·refine agl ?_;refine agy ?_;refine agW ?_;refine bB hns0 rfl rfl rfl h41 (cm rfl 7 (rz hjl)) rfl ?_;refine bB hns0 rfl rfl rfl h41 (cE 7 (.int .i64 ls[j].seq) rfl (FJ ls j hjl)) rfl ?_;refine agl ?_;refine agy ?_;refine agW ?_;refine bB hns0 rfl rfl rfl h41 (cm rfl 7 (rz hk)) rfl ?_;refine bB hns0 rfl rfl rfl h41 (cE 7 (.int .i64 ls[k].seq) rfl (FJ ls k hk)) rfl ?_;refine bB hns0 rfl rfl rfl h41 (zV rfl rfl) rfl ?_;refine zd hns0 rfl (zT (.bool _) rfl h41 rfl) rfl ?_;refine gz ?_;refine gG ?_;refine yC ?_ ?_<;>intro h53 p53<;>(try simp only at p53)<;>refine gG ?_
    ·refine Zd ?_;refine Zd ?_;have hm:sf ((ls.map aJ.abs).take k) ls[k].abs=true:=GP (ls.map aJ.abs) j k hj acG _ (by rw[hgj];exact⟨show ls[j].aG=ls[k].aG by omega,show ls[k].seq<=ls[j].seq by omega⟩);have e:Au (ls.map aJ.abs)=false:=by rw[CD,hi,hst,hfk,hm];rfl
     rw[e];exact acH
    first|refine yP rfl rfl ?_|refine zq (bU rfl rfl) rfl ?_
    refine gG ?_;exact adY
   refine abE ?_;refine abE ?_;refine abE ?_;refine abE ?_;refine abE ?_;refine abE ?_;refine abE ?_;refine abE ?_;refine abE ?_;refine abE ?_;refine abE ?_;refine zd hns0 rfl (zF (.bool _) rfl h41 rfl) rfl ?_;refine gz ?_;refine gG ?_;refine Zi ?_
   first|refine yP rfl rfl ?_|refine zq (bU rfl rfl) rfl ?_
   refine gG ?_;exact adY
  have hjk:j=k:=om;rw[hjk]at hb;refine gG ?_;refine Za ?_
  first|refine yP rfl rfl ?_|refine zq (bU rfl rfl) rfl ?_
  refine gG ?_;exact xl ⟨k+1,rfl,rfl,om,by rw[hi,hst,hfk,hb];rfl⟩
 have hkn:k=ls.length:=om;have hok:L3 [] (ls.map aJ.abs)=true:=by rw[hi,XV so];rfl
 refine gG ?_;refine Za ?_;have e:Au (ls.map aJ.abs)=true:=by rw[CD,hok,WZ,decide_eq_true om];rfl
 rw[e];exact acH
theorem pI{w0:World}{H:List SA}{a:Option Addr}{l:List UInt8}{c:Nat}[hr:dT w0 H (.slice a l.length c) l](hl:l.length<=4294967296):CT prog w0 (H) 82 [.slice a l.length c] (α:=(AC×List aJ)×List Nat) (fun y=> .tuple #[.slice y.1.1.a y.1.2.length y.1.1.c,.int .i64 (bN l).1]) (fun y=>pu (y.1.2.map aJ.abs=(bN l).2/\(∀x∈y.1.2,db x.op.a/\db x.op.b)/\y.1.2.length<=4)::row (.slice y.1.1.a (y.1.2).length y.1.1.c) 250 7 ((y.1.2).flatMap aJ.list)::dX y.2 ⟨(y.1.2).map aJ.sig,[],[]⟩::H):=by
 refine al func82 rfl ntmps82 rfl (gG ?_);refine ze rfl (zc (nM (k:=0) (m:=4) om hl dc dc) rfl (fun x11=>?_));rw[XI];obtain⟨hb1,hb2,hb3⟩:=iV l 4;refine ze rfl (an (fun b4=>?_));refine aag ?_;refine yC ?_ ?_<;>intro h14 p14
 ·refine gG ?_;refine dw (aF b4 (.cells (cS.mk ((ay l 4).2.1:Int) ⟨none,0,[]⟩ ((ay l 4).2.2:Int) (ay l 4).1).cells 245 (0,0))::H) [(0,true),(1,true),(2,true),(3,true)] (fun hns0=>?_);refine gA ?_;have e:bN l=((ay l 4).1,[]):=by
   unfold bN;rw[if_pos p14]
  simp only[e];exact zX ((⟨none,0⟩,[]),[]) [_,_] results82 ⟨rfl,rfl,trivial⟩ rfl (fun w hw=>by
   have h0:St w0 H w:=SB w hw;exact St.aC (h0.iw.cT 250 7) ⟨rfl,fun x hx=>afe,Xv _⟩)
 have hc0:(ay l 4).1=0:=om;have hc4:=(hZ hc0).2.1;rw[←show ay l 4=aq l from(hZ hc0).1]at hc4;refine gG ?_;refine bH [2,3,5,6,7,8,9,19,20,21,22,23,24,25,26,27,28,29,30,31,32,33,34,35,36,37,38,39,40,41,42,43,44,45,46,47,48,49,50] [7,5,6] (fun us H'=>∃(k:Nat)(q:Nat)(a7:Option Addr)(c7:Nat)(ls:List aJ)(fp:List Nat),us=[.int .i64 (k:Int),.int .i64 (q:Int),.slice a7 ls.length c7]/\row (.slice a7 (ls).length c7) 250 7 ((ls).flatMap aJ.list)::dX fp ⟨(ls).map aJ.sig,[],[]⟩::aF b4 (.cells (cS.mk ((ay l 4).2.1:Int) ⟨none,0,[]⟩ ((ay l 4).2.2:Int) (ay l 4).1).cells 245 (0,0))::H=H'/\k<=(ay l 4).2.1/\((w8 l (ay l 4).2.2 (ay l 4).2.1 [])=w8 l q ((ay l 4).2.1-k) (ls.map aJ.abs))/\(ls.length=k)/\(q<=l.length)/\(∀x∈ls,db x.op.a/\db x.op.b)) (fun us=>match us with| .int _ i::_=>(ay l 4).2.1-i.toNat|_=>0) ⟨0,(ay l 4).2.2,none,0,[],[],rfl,rfl,om,rfl,rfl,hb2,fun x hx=>by cases hx⟩ (fun w hw=>by
  have h0:St w0 (aF b4 (.cells (cS.mk ((ay l 4).2.1:Int) ⟨none,0,[]⟩ ((ay l 4).2.2:Int) (ay l 4).1).cells 245 (0,0))::H) w:=SB w hw;exact(h0.iw).cT 250 7) ?_
 rintro τ0 _ _ ⟨k,q,a7,c7,ls,fp,rfl,rfl,hk0,hi,hll,hq,hsg⟩ _;refine gG ?_;refine Zh ?_;refine yC ?_ ?_<;>intro h23 p23
 ·have hk:k<(ay l 4).2.1:=om;rw[show(ay l 4).2.1-k=((ay l 4).2.1-(k+1))+1 from by omega]at hi;refine gG ?_;refine ze rfl (zc (mB (k:=q) (m:=2000) hq hl dc dc) rfl (fun x28=>?_));obtain⟨ht1,ht2⟩:=eM (l.drop q) 2000;rw[Xe]at ht1 ht2;refine ze rfl (an (fun b8=>?_));refine aag ?_;refine yC ?_ ?_<;>intro h31 p31
  ·rw[Da p31]at hi;refine gG ?_;refine dw (aF b8 (.cells (cS.mk 0 ⟨x28.a,x28.c,(au (l.drop q) 2000).2.1⟩ ((au (l.drop q) 2000).2.2:Int) (au (l.drop q) 2000).1).cells 245 (0,0))::H) [(0,true),(1,true),(2,true),(3,true)] (fun hns1=>?_);refine gA ?_;refine Zd ?_;have e:bN l=((au (l.drop q) 2000).1,[]):=by
    unfold bN;rw[if_neg om,if_pos (by rw[hi];exact p31),hi]
   simp only[e];exact zX ((⟨none,0⟩,[]),[]) [_,_] results82 ⟨rfl,rfl,trivial⟩ rfl (fun w hw=>by
    have h0:St w0 H w:=SB w hw;exact St.aC (h0.iw.cT 250 7) ⟨rfl,fun x hx=>afe,Xv _⟩)
  refine aep ?_
  first|refine yP rfl rfl ?_|refine zq (bU rfl rfl) rfl ?_
  rw[show(q:Int)+(((au (l.drop q) 2000).2.2:Nat):Int)=((q+(au (l.drop q) 2000).2.2:Nat):Int)from by omega];refine gG ?_;refine ze rfl (zc (My (a:=x28.a) (l:=(au (l.drop q) 2000).2.1) (c:=x28.c) om) rfl (fun x40=>?_));refine aV (fun h40=>?_);have hys:=vJ (au (l.drop q) 2000).2.1;rw[←h40]at hys;refine ze rfl (an (fun b9=>?_));refine aag ?_;refine yC ?_ ?_<;>intro h43 p43
  ·rw[BD om p43]at hi;refine gG ?_;refine dw (aF b9 (.cells (dV.mk x40 (gP (au (l.drop q) 2000).2.1).1).cells 252 (0,0))::H) [(0,true),(1,true),(2,true),(3,true)] (fun hns2=>?_);refine gA ?_;refine Zd ?_;have e:bN l=((gP (au (l.drop q) 2000).2.1).1,[]):=by
    unfold bN;rw[if_neg om,if_pos (by rw[hi];exact p43),hi]
   simp only[e];exact zX ((⟨none,0⟩,[]),[]) [_,_] results82 ⟨rfl,rfl,trivial⟩ rfl (fun w hw=>by
    have h0:St w0 H w:=SB w hw;exact St.aC (h0.iw.cT 250 7) ⟨rfl,fun x hx=>afe,Xv _⟩)
  rw[Kk om om,←h40]at hi;refine gG ?_;refine ze rfl (cr (m:=([x40]:List aJ).length) [.agg (x40).cells] (([x40]:List aJ).flatMap aJ.list) rfl rfl rfl rfl ahq rfl rfl (fun a49 c49=>?_));refine ze rfl (cp aJ.list (sv:= .slice _ _ _) (xv:= .slice _ _ _) (xs:=ls) (ys:=[x40]) aJ.ae aJ.aS rfl rfl so rfl rfl (fun a50 c50=>gA ?_));apply bW
  case ha=>exact aff
  case hI=>exact⟨k+1,_,a50,c50,ls++[x40],(fp++(bQ (.slice x40.sig.a x40.sig.l.length x40.sig.c))),rfl,rfl,om,by rw[hi,Xi];rfl,by simp[hll],om,fun x hx=>by rcases Xc.1 hx with h|h;exact hsg x h;rw[Xb.1 h];exact hys⟩
  case hm=>exact by show(ay l 4).2.1-(k+1:Int).toNat<(ay l 4).2.1-(k:Int).toNat;omega
  case hH=>exact(fun w hw=>by
                have h1:St w0 (row (.slice x40.sig.a x40.sig.l.length x40.sig.c) 5 1 (aE x40.sig.l)::dX fp ⟨(ls).map aJ.sig,[],[]⟩::row (.slice a50 (ls++[x40]).length c50) 250 7 ((ls++[x40]).flatMap aJ.list)::aF b4 (.cells (cS.mk ((ay l 4).2.1:Int) ⟨none,0,[]⟩ ((ay l 4).2.2:Int) (ay l 4).1).cells 245 (0,0))::H) w:=SB w hw;have h3:St w0 (dX fp ⟨(ls).map aJ.sig,[],[]⟩::dX (bQ (.slice x40.sig.a x40.sig.l.length x40.sig.c)) ⟨[x40.sig],[],[]⟩::row (.slice a50 (ls++[x40]).length c50) 250 7 ((ls++[x40]).flatMap aJ.list)::aF b4 (.cells (cS.mk ((ay l 4).2.1:Int) ⟨none,0,[]⟩ ((ay l 4).2.2:Int) (ay l 4).1).cells 245 (0,0))::H) w:=cJ.st inferInstance w h1.KV;have h4:St w0 (dX (fp++(bQ (.slice x40.sig.a x40.sig.l.length x40.sig.c))) ⟨(ls++[x40]).map aJ.sig,[],[]⟩::row (.slice a50 (ls++[x40]).length c50) 250 7 ((ls++[x40]).flatMap aJ.list)::aF b4 (.cells (cS.mk ((ay l 4).2.1:Int) ⟨none,0,[]⟩ ((ay l 4).2.2:Int) (ay l 4).1).cells 245 (0,0))::H) w:=by
                 rw[Xi];exact h3.j3
                exact cJ.st inferInstance w h4)
 have hkn:k=(ay l 4).2.1:=om;rw[hkn,Y8]at hi;have hie:(w8 l (ay l 4).2.2 (ay l 4).2.1 [])=(0,ls.map aJ.abs,q):=hi;refine gG ?_;refine Za ?_;refine yC ?_ ?_<;>intro h54 p54<;>refine gG ?_
 ·have e:bN l=(2,[]):=by
   unfold bN;rw[if_neg om,if_neg agq,if_pos (by rw[hie];show q<l.length;omega)]
  simp only[e];exact zX ((⟨none,0⟩,[]),[]) [_,_] results82 ⟨rfl,rfl,trivial⟩ rfl (fun w hw=>by
   have h0:St w0 H w:=SB w hw;exact St.aC (h0.iw.cT 250 7) ⟨rfl,fun x hx=>afe,Xv _⟩)
 refine ze rfl (zc (uJ (ls:=ls) om) rfl (fun x56=>gG ?_));refine yC ?_ ?_<;>intro h57 p57<;>refine gG ?_
 ·have e:bN l=(15,[]):=by
   unfold bN;rw[if_neg om,if_neg agq,if_neg (by rw[hie];show ¬q<l.length;omega),if_pos (by rw[hie];simpa using h57)]
  simp only[e];exact zX ((⟨none,0⟩,[]),[]) [_,_] results82 ⟨rfl,rfl,trivial⟩ rfl (fun w hw=>by
   have h0:St w0 H w:=SB w hw;exact St.aC (h0.iw.cT 250 7) ⟨rfl,fun x hx=>afe,Xv _⟩)
 have e:bN l=(0,ls.map aJ.abs):=by
  unfold bN;rw[if_neg om,if_neg agq,if_neg (by rw[hie];show ¬q<l.length;omega),if_neg (by rw[hie];simpa using h57),hie]
 rw[e];exact zX ((⟨a7,c7⟩,ls),fp) [_,_] results82 ⟨rfl,rfl,trivial⟩ rfl (fun w hw=>(SB w hw:St w0 (row (.slice a7 (ls).length c7) 250 7 ((ls).flatMap aJ.list)::dX fp ⟨(ls).map aJ.sig,[],[]⟩::H) w).aC ⟨rfl,hsg,by show ls.length<=4;omega⟩)
end
end Go.Proofs.YtmbfimckmfnnjaaGreatDoor
