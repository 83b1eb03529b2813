/- Steps of the proof of a law. -/
import Derived.Test.YtmbfimckmfnnjaaGreatDoorQ34
import Derived.SizedLaws
import Derived.Sort.MapsRangeIn
import Derived.OwnWalkIn
import Derived.TacticsInMore
import Derived.RegionIn
import Derived.LoopNIn
import Derived.LoopIn
import Derived.RangeFuncNested
import Derived.Shelf.Abstract
set_option maxRecDepth 100000
set_option maxHeartbeats 1000000
set_option linter.unusedSimpArgs false
set_option linter.unusedVariables false
section
namespace Go.Sx
open Go.RowKit
class qh(P:Program)(t:TypeId)(α:outParam Type)(enc:outParam (α->List Value))(Rd:outParam (World->α->Prop)):Prop where
 ok:∀ {H:Type}(en:TypeId×Value->H)(w:World)(sp:Nat->Bool)(fuel:Nat)(cs:List Value)(x:DataW H×List MemPlace),DataW.trod en P w 0 sp true fuel t cs=some x->(∀n∈DataW.weights P t x.1,n<=reachBytes)->∃y:α,cs=enc y/\Rd w y
theorem qh.of{P:Program}{t:TypeId}{α:Type}{enc:α->List Value}{Rd:World->α->Prop}(O:Ca P t α enc Rd):qh P t α enc Rd:=⟨fun en w sp fuel cs x h _=>O.ok en w sp fuel cs x h⟩
theorem ow{H:Type}{P:Program}{e:TypeId}:∀ {ds:List (DataW H)}{d:DataW H},d∈ds->∀n∈DataW.weights P e d,n∈DataW.weightsAll P e ds
 |d0::ds,d,hd,n,hn=>by
   simp only[DataW.weightsAll,Xc];rcases Xg.1 hd with rfl|hd
   · exact .inl hn
   · exact .inr (ow hd n hn)
theorem fT{H:Type}{P:Program}{t:TypeId}{fs:Array Field}{f:Field}{x:DataW H×List MemPlace}{xs:List (DataW H×List MemPlace)}{y:DataW H×List MemPlace}{ps:List MemPlace}(hx:x=(.agg (xs.map (·.1)),ps))(ht:P.underlying t=some (.struct fs))(i:Nat)(hf:fs[i]? =some f)(hy:xs[i]? =some y)(n:Nat)
   (hn:n∈DataW.weights P f.type y.1):n∈DataW.weights P t x.1:=by
 subst hx;simp only[DataW.weights,ht];exact DataW.weights_mem_each (j:=i) (t:=f.type) (by simp[hf]) (by simp[hy]) n hn
theorem yK{P:Program}{t e:TypeId}(ht:P.underlying t=some (.slice e))(he:P.underlying e=some (.int .u8))(hc:P.cellsOf e=1)(hb:P.bytesOf e=1):qh P t BS (fun x=>[x.val]) (fun w x=>gN w x.val x.l/\x.l.length<=reachBytes):=
 ⟨fun en w sp fuel cs x h hz=>by
   obtain⟨y,hy,hr⟩:=(tc ht he hc).ok en w sp fuel cs x h;refine⟨y,hy,hr,?_⟩;rcases DataW.trod_slice ht h with⟨h1,_⟩|⟨a,len,cap,elems,rest,m,_,h1,hx,_,_,_,hel,_⟩
   · rw[hy]at h1
     simp only[List.cons.injEq,Value.slice.injEq,and_true]at h1;rw[h1.2.1];exact Xv _
   · rw[hy]at h1
     simp only[List.cons.injEq,Value.slice.injEq,and_true]at h1;have:=hz ((elems.length+rest.length)*1) (by subst hx;simp[DataW.weights,ht,hb]);rw[h1.2.1];omega⟩
theorem pb{P:Program}{t e:TypeId}{n:Nat}{α:Type}{enc:α->List Value}{Rd:World->α->Prop}(O:qh P e α enc Rd)(ht:P.underlying t=some (.slice e))(hn:P.cellsOf e=n)(hpos:0<n)(hlen:∀y,(enc y).length=n)
   {H:Type}{en:TypeId×Value->H}{w:World}{sp:Nat->Bool}{fuel:Nat}{cs:List Value}{x:DataW H×List MemPlace}(h:DataW.trod en P w 0 sp true fuel t cs=some x)(hz:∀n∈DataW.weights P t x.1,n<=reachBytes):∃(a:Option Addr)(c:Nat)(ls:List α),cs=[.slice a ls.length c]/\cY w (.slice a ls.length c) n (ls.flatMap enc)/\∀y∈ls,Rd w y:=by
 rcases DataW.trod_slice ht h with⟨hc,_⟩|⟨a,len,cap,elems,rest,m,_,hcs,hxx,_,hl,hm,hel,hi,_⟩
 · exact⟨none,0,[],by simpa using hc,⟨none,0,0,rfl,sm,W8 _,by unfold maxLen;omega,sm⟩,sm⟩
 · rw[hn]at hi
   have hex:∀i,i<len->∃y,w.cells? 0 (a.add (i*n)) n=some (enc y)/\Rd w y:=fun i hlt=>by
     have h1:=hi i hlt;rw[WW om]at h1;simp only[Option.bind_eq_some_iff]at h1;obtain⟨c1,h2,h3⟩:=h1;obtain⟨y,rfl,hy⟩:=O.ok en w sp m c1 _ h3 (fun k hk=>hz k (by
       subst hxx;simp only[DataW.weights,ht,Xg,Xc];exact .inr (.inl (ow (Xd.2 ⟨_,W1 om,rfl⟩) k hk))))
     exact⟨y,h2,hy⟩
   obtain⟨ls,hls,hp⟩:=mZ len hex;have hcell:∀i (hi:i<ls.length) j,j<n->w.cell? ((a.add (i*n)).add j)=(enc ls[i])[j]? :=fun i hi j hj=>cells?_get (hp i hi).1 j hj;have hspot:0<len->a.spot=none:=fun h0=>by
     have h1:=hcell 0 om 0 hpos;rw[show(a.add (0*n)).add 0=a by simp[Addr.add],WW (by rw[hlen];exact hpos)]at h1;unfold World.cell? at h1
     split at h1
     · split at h1
       · cases h1
       · rename_i hs;simpa using hs
     · cases h1
   refine⟨some a,cap,ls,by rw[hls];exact hcs,⟨some a,ls.length,cap,rfl,fy enc n hlen ls,om,hm,fun h0=>?_⟩,fun y hy=>?_⟩
   · have h0':0<len:=by
       rw[fy enc n hlen ls,hls]at h0;rcases YH len with h|h
       · subst h;simp at h0
       · exact h
     refine⟨a.block,a.off,?_,fun j u hj=>?_⟩
     · have:=hspot h0'
       cases a;simp_all
     · have hjl:j<ls.length*n:=by
         have:=(List.getElem?_eq_some_iff.1 hj).1
         rwa [fy enc n hlen ls]at this
       have hq:j/n<ls.length:=Nat.div_lt_of_lt_mul (by rwa [Yn]at hjl);have hr:j%n<n:=YZ _ hpos;have hjd:j/n*n+j%n=j:=by rw[Yn];exact Nat.div_add_mod j n
       have h1:=hcell (j/n) hq (j%n) hr;rw[←iL enc n hlen ls (j/n) (j%n) hq hr,hjd,hj]at h1;have e:(a.add (j/n*n)).add (j%n)=⟨a.block,a.off+j,none⟩:=by
         have hs:=hspot h0';obtain⟨ab,ao,_⟩:=a;simp only at hs;subst hs;rw[uB,uB,X9,hjd]
       rw[e]at h1;exact h1
   · obtain⟨i,hi,rfl⟩:=XU hy
     exact(hp i hi).2
theorem Gm{P:Program}{t e u:TypeId}(ht:P.underlying t=some (.slice e))(he:P.underlying e=some (.slice u))(hu:P.underlying u=some (.int .u8))(hc:P.cellsOf e=1)(hc':P.cellsOf u=1)(hb:P.bytesOf u=1):qh P t PS (fun x=>[.slice x.a x.ls.length x.c]) (fun w x=>cY w (.slice x.a x.ls.length x.c) 1 (x.ls.map BS.val)/\∀y∈x.ls,gN w y.val y.l/\y.l.length<=reachBytes):=
 ⟨fun en w sp fuel cs x h hz=>by
   obtain⟨a,c,ls,h1,h2,h3⟩:=pb (yK he hu hc' hb) ht hc om (fun _=>rfl) h hz;rw[qW]at h2;exact⟨⟨a,c,ls⟩,h1,h2,h3⟩⟩
theorem HQ{H:Type}{P:Program}{ts:List TypeId}{ds:List (DataW H)}(h:(DataW.weightsEach P ts ds).all (· <=reachBytes)=true)(j:Nat){t:TypeId}{d:DataW H}(ht:ts[j]? =some t)(hd:ds[j]? =some d):∀n∈DataW.weights P t d,n<=reachBytes:=fun n hn=>by
 have:=Yc.1 h n (DataW.weights_mem_each ht hd n hn);simpa using this
end Go.Sx
end
namespace Go.Proofs.YtmbfimckmfnnjaaGreatDoor
open Go.RowKit Go.Sx Go.Proofs.Tryz
section
structure OV(y:cb)(ls:List af):Prop where
 dZ:0<=(fX ls).1->y.k.now.view=(fX ls).1/\y.k.now.dZ=(fX ls).2
 OP:(fX ls).1<0->y.k.now.view=0/\y.k.now.dZ=0
 slot:y.k.slot=bZ ls
 acc:(y.acc.map fun q=>q.2.abs)=(ig ls).map af.abs
 wrote:∀a,(eu y.es a).map af.abs=(cj ls a).map af.abs
theorem map_some{α β:Type}{f:α->β}{x y:Option α}(h:x.map f=y.map f):x.isSome=y.isSome:=by
 have:=congrArg Option.isSome h;simpa using this
theorem Il{x y:Option af}(h:x.map af.abs=y.map af.abs):(x.getD af.zero).abs=(y.getD af.zero).abs:=by
 cases x<;>cases y<;>simp_all
end
section
theorem lX:∀(l:List af)(n:Int),n<=l.foldl fx n/\∀v∈l,1<v.kind->v.slot<=l.foldl fx n
 |[],n=>⟨Int.le_refl _,fun _ h=>by cases h⟩
 |u::l,n=>by
   obtain⟨h1,h2⟩:=lX l (fx n u);have h0:n<=fx n u/\(1<u.kind->u.slot<=fx n u):=by unfold fx;split<;>exact⟨om,fun _=>by omega⟩
   refine⟨Int.le_trans h0.1 h1,fun v hv hk=>?_⟩;rcases Xg.1 hv with rfl|hv
   · exact Int.le_trans (h0.2 hk) h1
   · exact h2 v hv hk
variable {l:List af} {v:af}
theorem ma(l:List af)(v:af):bZ (l++[v])=fx (bZ l) v:=by simp[bZ]
theorem sT(l:List af)(v:af):fX (l++[v])=jx (fX l) v:=by simp[fX]
theorem xB{α:Type}(p:α->Bool)(l:List α)(v:α):(l++[v]).find? p=(l.find? p).or (if p v then some v else none):=by
 rw[List.find?_append];cases h:p v<;>simp[List.find?,h]
theorem B5(s:Int):∀(l:List af)(o:Option af),(∀v∈l,v.kind=3->v.slot<s)->l.foldl (gO s) o=o
 |[],_,_=>rfl
 |v::l,o,h=>by
   rw[Ys,show gO s o v=o from if_pos (by have:=h v sm;omega)];exact B5 s l o fun u hu=>h u (by simp[hu])
structure ir(b:fG)(l:List af):Prop where
 LL:b.cO=decide (0<=(fX l).1)
 now:b.cO=true->b.now=⟨(fX l).1,(fX l).2⟩
 JL:b.cO=false->b.now=⟨0,0⟩
 slot:b.slot=bZ l
 acc:b.acc=(ig l).map af.abs
 wrote:∀a,b.get a=(cj l a).map af.abs
theorem ir.same{y:cb}(h:ir y.abs l):OV y l where
 dZ:=fun h0=>by
   have:=h.now (h.LL.trans (decide_eq_true h0));exact ahc
 OP:=fun h0=>by
   have:=h.JL (h.LL.trans (decide_eq_false om));exact ahc
 slot:=h.slot
 acc:=h.acc
 wrote:=fun a=>by rw[←cb.get];exact h.wrote a
theorem ir.start:ir fG.zero []:=⟨rfl,fun h=>acX,fun _=>rfl,rfl,rfl,fun _=>rfl⟩
theorem yc(b:fG)(s:Int)(h:¬s<b.slot)(a:bG):(iv b s).get a=if b.slot<s then none else b.get a:=by
 unfold iv
 split<;>rfl
theorem GY(b:fG)(a x:bG)(v:dm):(kZ b a v).get x=(b.get x).or (if x=a then some v else none):=by
 unfold kZ
 split
 · rename_i h
   by_cases e:x=a
   · subst e
     obtain⟨u,hu⟩:=XH.1 h;simp[hu]
   · simp[e]
 · rename_i h
   simp only[fG.get,List.find?_append,YM,List.find?_nil];by_cases e:x=a
   · subst e
     cases hf:List.find? (fun e=>decide (x=e.1)) b.wrote<;>simp
   · simp[e]
theorem DN(b:fG)(a x:bG)(v:dm):(ik b a v).get x=b.get x:=by
 unfold ik
 split
 · rfl
 · split<;>rfl
theorem r8{n:Int}(hk:1<v.kind)(h:¬v.slot<n):fx n v=v.slot:=by
 unfold fx;split
 · rfl
 · omega
theorem wx(hk:1<v.kind)(h:¬v.slot<bZ l)(a:bG):cj (l++[v]) a=(if bZ l<v.slot then none else cj l a).or (if td v.slot a v then some v else none):=by
 have e:=ma l v;rw[r8 hk h]at e;unfold cj;rw[e,xB];by_cases hlt:bZ l<v.slot
 · rw[if_pos hlt]
   congr 1
   rw[YR];intro u hu;have:=(lX l 0).2 u hu;simp only[td,Xz,decide_eq_true_eq];rintro⟨⟨⟨h1,h2⟩,-⟩,-⟩;have h3:=this om;have h4:bZ l=l.foldl fx 0:=rfl;omega
 · rw[if_neg hlt,show v.slot=bZ l from by omega]
theorem B0(hk:1<v.kind)(h:¬v.slot<bZ l):ig (l++[v])=gO v.slot (if bZ l<v.slot then none else ig l) v:=by
 have e:=ma l v;rw[r8 hk h]at e;unfold ig;rw[e,X0];show gO v.slot _ v=_
 split
 · rename_i hlt
   rw[B5];intro u hu h3;have h5:=(lX l 0).2 u hu om;have h4:bZ l=l.foldl fx 0:=rfl;omega
 · rw[show v.slot=bZ l from by omega]
theorem wU{p:Int×Int}(h:v.kind≠1):jx p v=p:=if_neg om
theorem pE{b:fG}(hs:ir b l)(s:Int):(iv b s).cO=b.cO/\(iv b s).now=b.now/\(iv b s).acc=if bZ l<s then none else b.acc:=by
 unfold iv;rw[←hs.slot]
 split<;>exact⟨rfl,rfl,rfl⟩
theorem pS{b:fG}(hs:ir b l):(eX b v.abs).2=fh l v/\((eX b v.abs).2=0->ir (eX b v.abs).1 (l++[v]))/\((eX b v.abs).2≠0->ir (eX b v.abs).1 l):=by
 rcases Db b v.abs with⟨e,hp⟩|⟨e,hp,hk⟩|⟨e,hp,hk,hl⟩|⟨e,hp,hk,hl⟩|⟨e,hp,hk1,hk2,hl⟩<;>rw[e]
 · exact⟨(if_pos hp).symm,fun h=>by simp at h,fun _=>hs⟩
 · have hk:v.kind=1:=hk
   obtain⟨-,-,⟨hv0,hv1⟩,⟨hr0,hr1⟩,-⟩:=(aD v.abs).1 (iT hp);have hv0:0<=v.view:=hv0;refine⟨by unfold fh;rw[if_neg agQ,if_neg om],fun _=>?_,fun h=>absurd rfl h⟩;have es:bZ (l++[v])=bZ l:=by rw[ma];unfold fx;rw[if_neg om]
   have ea:ig (l++[v])=ig l:=by
     unfold ig;rw[es,X0];exact if_pos om
   have ew:∀a,cj (l++[v]) a=cj l a:=fun a=>by
     unfold cj;rw[es,xB,if_neg (by simp[td,hk])];simp
   have er:fX (l++[v])=if (fX l).1<v.view∨(v.view=(fX l).1/\(fX l).2<v.dZ)then(v.view,v.dZ)else fX l:=by
     rw[sT];unfold jx;simp only[hk,true_and]
   have hcond:(!b.cO||iG ⟨v.view,v.dZ⟩ b.now)=decide ((fX l).1<v.view∨(v.view=(fX l).1/\(fX l).2<v.dZ)):=by
     cases he:b.cO
     · have h1:¬0<=(fX l).1:=of_decide_eq_false (hs.LL.symm.trans he)
       simp;omega
     · rw[hs.now he]
       rw[W5];simp[iG]
   have h1:=pE hs v.slot;show ir (bif !b.cO||iG ⟨v.view,v.dZ⟩ b.now then _ else b) _;rw[hcond];by_cases hc:(fX l).1<v.view∨(v.view=(fX l).1/\(fX l).2<v.dZ)
   · rw[if_pos hc]at er
     rw[decide_eq_true hc,cond_true];exact⟨by rw[er];simp[hv0],fun _=>by rw[er];rfl,fun h=>acX,by rw[es];exact hs.slot,by rw[ea];exact hs.acc,fun a=>by rw[ew];exact hs.wrote a⟩
   · rw[if_neg hc]at er
     rw[decide_eq_false hc,cond_false];exact⟨by rw[er];exact hs.LL,fun h=>by rw[er];exact hs.now h,hs.JL,by rw[es];exact hs.slot,by rw[ea];exact hs.acc,fun a=>by rw[ew];exact hs.wrote a⟩
 · have hk':1<v.kind:=by have:=((aD v.abs).1 (iT hp)).1;have h2:v.kind≠1:=hk;have h3:1<=v.kind:=this;omega
   refine⟨?_,fun h=>by simp at h,fun _=>hs⟩;unfold fh;rw[if_neg agQ,if_pos ⟨hk',by rw[←hs.slot];exact hl⟩]
 · have hk:v.kind=2:=hk
   have hl:¬v.slot<bZ l:=by rw[←hs.slot];exact hl
   refine⟨?_,fun _=>?_,fun h=>absurd rfl h⟩
   · unfold fh
     rw[if_neg agQ,if_neg om]
   · obtain⟨w1,w2,w3,w4⟩:=Hj (iv b v.abs.slot) ⟨v.view,v.dZ⟩ v.abs
     obtain⟨g1,g2,g3⟩:=pE hs v.abs.slot;have er:fX (l++[v])=fX l:=by rw[sT,wU om]
     show ir (kZ (iv b v.abs.slot) ⟨v.view,v.dZ⟩ v.abs) _;refine⟨by rw[w2,g1,er];exact hs.LL,fun h=>by rw[w1,g2,er];exact hs.now afH,fun h=>by rw[w1,g2];exact hs.JL afH,?_,?_,fun a=>?_⟩
     · rw[w3,vT b v.abs.slot agn,ma,r8 om hl];rfl
     · rw[w4,g3,B0 om hl,hs.acc]
       rw[show gO v.slot (if bZ l<v.slot then none else ig l) v=if bZ l<v.slot then none else ig l from if_pos om];show(if bZ l<v.slot then none else _)=_
       split<;>rfl
     · rw[GY,yc b _ agn,wx om hl,hs.wrote,hs.slot]
       show(if bZ l<v.slot then none else _).or _=_;have e1:td v.slot a v=decide (a=⟨v.view,v.dZ⟩):=by
         rw[W5];simp[td,hk,bG.dk];omega
       rw[e1];by_cases ha:a=⟨v.view,v.dZ⟩<;>by_cases hlt:bZ l<v.slot<;>simp[ha,hlt]
 · have hk1:v.kind≠1:=hk1
   have hk2:v.kind≠2:=hk2;obtain⟨hka,hkb,-⟩:=(aD v.abs).1 (iT hp);have hk:v.kind=3:=by have h1:1<=v.kind:=hka;have h2:v.kind<=3:=hkb;omega
   have hl:¬v.slot<bZ l:=by rw[←hs.slot];exact hl
   refine⟨?_,fun _=>?_,fun h=>absurd rfl h⟩
   · unfold fh
     rw[if_neg agQ,if_neg om]
   · obtain⟨w1,w2,w3⟩:=En (iv b v.abs.slot) ⟨v.view,v.dZ⟩ v.abs
     obtain⟨g1,g2,g3⟩:=pE hs v.abs.slot;have er:fX (l++[v])=fX l:=by rw[sT,wU om]
     show ir (ik (iv b v.abs.slot) ⟨v.view,v.dZ⟩ v.abs) _;refine⟨by rw[w2,g1,er];exact hs.LL,fun h=>by rw[w1,g2,er];exact hs.now afH,fun h=>by rw[w1,g2];exact hs.JL afH,?_,?_,fun a=>?_⟩
     · rw[w3,vT b v.abs.slot agn,ma,r8 om hl];rfl
     · rw[B0 om hl]
       have e0:(iv b v.abs.slot).acc=(if bZ l<v.slot then none else ig l).map af.abs:=by
         rw[g3,hs.acc];show(if bZ l<v.slot then none else _)=_
         split<;>rfl
       have hn:¬(v.kind≠3∨v.slot≠v.slot):=om;generalize (if bZ l<v.slot then none else ig l)=o at e0 ⊢;unfold ik gO;rw[e0,if_neg hn];cases o with
       |none=>rfl
       |some u=>
         simp only[XK];have e2:iG ⟨v.view,v.dZ⟩ ⟨u.abs.view,u.abs.dZ⟩=decide (u.view<v.view∨(v.view=u.view/\u.dZ<v.dZ)):=by
           show(decide (u.view<v.view)||(decide (v.view=u.view)&&decide (u.dZ<v.dZ)))=_;rw[W5];simp only[Bool.or_eq_true,Xz,decide_eq_true_eq]
         rw[e2];by_cases hc:u.view<v.view∨(v.view=u.view/\u.dZ<v.dZ)
         · simp only[hc,decide_true,if_true];rfl
         · simp only[hc,decide_false,Xm,if_false];exact e0
     · rw[DN,yc b _ agn,wx om hl,hs.wrote,hs.slot]
       rw[show td v.slot a v=false from by simp[td,hk]];show(if bZ l<v.slot then none else _)=_;by_cases hlt:bZ l<v.slot<;>simp[hlt]
theorem Fx{w0:World}{H:List SA}{vs us:List af}(h:jF w0 H vs)(hs:∀v∈us,v∈vs):jF w0 H us:=⟨fun v hv=>h.b v (hs v hv),fun v hv=>h.c v (hs v hv),fun v hv=>h.e v (hs v hv)⟩
end
section
def o8(a b:bG):Prop:=a.view<b.view∨(a.view=b.view/\a.dZ<b.dZ)
variable {l:List af} {a:bG} {v:af}
theorem Ad(a:bG):¬o8 a a:=by unfold o8;omega
theorem Bd{b:bG}(h:o8 a b):¬o8 b a:=by unfold o8 at*;omega
theorem wV{α:Type}{lt:α->α->Prop}(hi:∀a,¬lt a a)(ha:∀a b,lt a b->¬lt b a):∀(l m:List α),l.Pairwise lt->m.Pairwise lt->(∀a,a∈l↔a∈m)->l=m
 |[],[],_,_,_=>rfl
 |[],b::m,_,_,h=>absurd ((h b).2 sm) sm
 |a::l,[],_,_,h=>absurd ((h a).1 sm) sm
 |a::l,b::m,h1,h2,h=>by
   have h1':=List.pairwise_cons.1 h1;have h2':=List.pairwise_cons.1 h2;have e:a=b:=by
     rcases Xg.1 ((h a).1 sm)with e|e
     · exact e
     · rcases Xg.1 ((h b).2 sm)with e2|e2
       · exact e2.symm
       · exact absurd (h2'.1 a e) (ha _ _ (h1'.1 b e2))
   subst e
   congr 1
   refine wV hi ha l m h1'.2 h2'.2 (fun x=>⟨fun hx=>?_,fun hx=>?_⟩)
   · rcases Xg.1 ((h x).1 (Xa _ hx))with e|e
     · subst e;exact absurd (h1'.1 _ hx) (hi _)
     · exact e
   · rcases Xg.1 ((h x).2 (Xa _ hx))with e|e
     · subst e;exact absurd (h2'.1 _ hx) (hi _)
     · exact e
def ml(v n:Nat):List bG:=(List.range n).map fun r:Nat=>⟨(v:Int),(r:Int)⟩
def jr(n:Nat):List bG:=(List.range n).flatMap fun v:Nat=>ml v 41
def j8:List bG:=jr 61
theorem nr(v n:Nat):ml v (n+1)=ml v n++[⟨(v:Int),(n:Int)⟩]:=by simp[ml,Yu]
theorem og(n:Nat):jr (n+1)=jr n++ml n 41:=by simp[jr,Yu]
theorem uU(v n:Nat):(ml v n).length=n:=by simp[ml]
theorem lW:∀n:Nat,(jr n).length=n*41
 |0=>rfl
 |n+1=>by rw[og,WX,lW n,uU];omega
theorem CO(a:bG):a∈j8↔(0<=a.view/\a.view<=60)/\(0<=a.dZ/\a.dZ<=40):=by
 simp only[j8,jr,ml,Y7,YK,Xd]
 constructor
 · rintro⟨v,hv,r,hr,rfl⟩
   exact⟨⟨by show(0:Int)<=(v:Int);omega,by show(v:Int)<=60;omega⟩,⟨by show(0:Int)<=(r:Int);omega,by show(r:Int)<=40;omega⟩⟩
 · rintro⟨⟨h1,h2⟩,h3,h4⟩
   refine⟨a.view.toNat,om,a.dZ.toNat,om,?_⟩;cases a;simp only[bG.mk.injEq]at*;omega
theorem DM(v n:Nat):(ml v n).Pairwise o8:=by
 induction n with
 |zero=>simp[ml]
 |succ n ih=>
   rw[nr,List.pairwise_append];refine⟨ih,sm,fun a ha b hb=>?_⟩;obtain rfl:b=_:=ad5;simp only[ml,Xd,YK]at ha;obtain⟨r,hr,rfl⟩:=ha;exact .inr ⟨rfl,by show(r:Int)<(n:Int);omega⟩
theorem AY(n:Nat):(jr n).Pairwise o8:=by
 induction n with
 |zero=>simp[jr]
 |succ n ih=>
   rw[og,List.pairwise_append];refine⟨ih,DM _ _,fun a ha b hb=>?_⟩;simp only[jr,ml,Y7,YK,Xd]at ha hb;obtain⟨v,hv,r,hr,rfl⟩:=ha;obtain⟨q,hq,rfl⟩:=hb;exact .inl (by show(v:Int)<(n:Int);omega)
theorem C6:j8.Pairwise o8:=AY 61
def hU(p:Int×Int):af:= {af.zero with kind:=1,view:=p.1,dZ:=p.2}
def kV(l:List af):List af:=if 0<=(fX l).1 then[hU (fX l)]else[]
def fg(l:List af):List af:=kV l++(j8.filterMap (cj l)++(ig l).toList)
def qQ(l:List af):Prop:=∀v∈l,(cU v.abs).2=0
theorem jn(h:cj l a=some v):v∈l/\v.kind=2/\v.slot=bZ l/\v.view=a.view/\v.dZ=a.dZ:=by
 have h1:=List.mem_of_find?_eq_some h;have h2:=List.find?_some h;simp only[td,Xz,decide_eq_true_eq]at h2;exact⟨h1,h2.1.1.1,h2.1.1.2,h2.1.2,h2.2⟩
theorem xZ(s:Int):∀(l:List af)(o:Option af)(u:af),l.foldl (gO s) o=some u->o=some u∨(u∈l/\u.kind=3/\u.slot=s)
 |[],o,u,h=> .inl h
 |v::l,o,u,h=>by
   rcases xZ s l (gO s o v) u h with h1|h1
   · unfold gO at h1
     split at h1
     · exact .inl h1
     · rename_i hn
       have hk:v.kind=3/\v.slot=s:=om;cases o with
       |none=>
         obtain rfl:v=u:=by simpa using h1
         exact .inr ⟨sm,hk⟩
       |some q=>
         simp only at h1
         split at h1
         · obtain rfl:v=u:=by simpa using h1
           exact .inr ⟨sm,hk⟩
         · exact .inl h1
   · exact .inr ⟨Xa _ h1.1,h1.2⟩
theorem mM{u:af}(h:ig l=some u):u∈l/\u.kind=3/\u.slot=bZ l:=by
 rcases xZ _ l none u h with h1|h1
 · cases h1
 · exact h1
theorem xR(s:Int):∀(l:List af)(o:Option af),(o.isSome=true∨∃u∈l,u.kind=3/\u.slot=s)->(l.foldl (gO s) o).isSome=true
 |[],o,h=>by
   rcases h with h|⟨u,hu,-⟩
   · exact h
   · cases hu
 |v::l,o,h=>by
   refine xR s l (gO s o v) ?_;by_cases hv:v.kind=3/\v.slot=s
   · left
     unfold gO;rw[if_neg om];cases o with
     |none=>rfl
     |some q=>simp only;split<;>rfl
   · rcases h with h|⟨u,hu,hk⟩
     · left
       unfold gO;rw[if_pos om];exact h
     · rcases Xg.1 hu with rfl|hu
       · exact absurd hk hv
       · exact .inr ⟨u,hu,hk⟩
theorem pX(hc:qQ l)(h:(cj l a).isSome=true):a∈j8:=by
 obtain⟨v,hv⟩:=XH.1 h;obtain⟨hm,-,-,h1,h2⟩:=jn hv;obtain⟨-,-,hvw,hrg,-⟩:=(aD _).1 (iT (hc v hm));have hvw:0<=v.view/\v.view<=60:=hvw;have hrg:0<=v.dZ/\v.dZ<=40:=hrg;rw[CO];omega
theorem tr{f:bG->Option af}(g:List bG):(g.filter fun a=>(f a).isSome).map (fun a=>(f a).getD af.zero)=g.filterMap f:=by
 induction g with
 |nil=>rfl
 |cons a g ih=>
   cases h:f a with
   |none=>simp[h,ih]
   |some v=>simp[h,ih]
theorem Ho(hc:qQ l){ks:List bG}(hs:ks.Pairwise o8)(hm:∀a,a∈ks↔(cj l a).isSome=true):ks=j8.filter fun a=>(cj l a).isSome:=
 wV Ad (fun _ _=>Bd) _ _ hs (C6.filter _) (fun a=>by
   rw[hm,Yg];exact⟨fun h=>⟨pX hc h,h⟩,fun h=>h.2⟩)
theorem Et(hc:qQ l){ks:List bG}(hs:ks.Pairwise o8)(hm:∀a,a∈ks↔(cj l a).isSome=true):ks.map (fun a=>(cj l a).getD af.zero)=j8.filterMap (cj l):=by
 rw[Ho hc hs hm,tr]
theorem zv:∀(l:List af)(n:Int),n<l.foldl fx n->∃v∈l,1<v.kind/\v.slot=l.foldl fx n
 |[],n,h=>absurd h sm
 |v::l,n,h=>by
   rw[Ys]at h ⊢;by_cases hl:fx n v<l.foldl fx (fx n v)
   · obtain⟨u,hu,h1⟩:=zv l _ hl
     exact⟨u,Xa _ hu,h1⟩
   · have h2:=(lX l (fx n v)).1
     have e:l.foldl fx (fx n v)=fx n v:=om;rw[e]at h ⊢;unfold fx at h ⊢
     split at h
     · rename_i hk;rw[if_pos hk];exact⟨v,sm,hk.1,rfl⟩
     · omega
theorem lH(l:List af):0<=bZ l:=(lX l 0).1
theorem vi{S:Int}:∀(l:List af)(n:Int),n<=S->(∀v∈l,1<v.kind->v.slot<=S)->l.foldl fx n<=S
 |[],_,h,_=>h
 |v::l,n,h,hl=>by
   rw[Ys];refine vi l _ ?_ (fun u hu=>hl u (by simp[hu]));unfold fx;split
   · rename_i hk;exact hl v sm hk.1
   · exact h
theorem qV(h:v∈fg l):(0<=(fX l).1/\v=hU (fX l))∨(v∈l/\v.kind=2/\v.slot=bZ l/\cj l ⟨v.view,v.dZ⟩=some v)∨(v∈l/\v.kind=3/\v.slot=bZ l/\ig l=some v):=by
 unfold fg at h;rcases Xc.1 h with h|h
 · left
   unfold kV at h
   split at h
   · exact⟨by assumption,by simpa using h⟩
   · cases h
 · rcases Xc.1 h with h|h
   · right;left
     obtain⟨a,-,ha⟩:=List.mem_filterMap.1 h;obtain⟨h1,h2,h3,h4,h5⟩:=jn ha;refine⟨h1,h2,h3,?_⟩;rw[h4,h5];exact ha
   · right;right
     have h:=Option.mem_toList.1 h;obtain⟨h1,h2,h3⟩:=mM h;exact⟨h1,h2,h3,h⟩
theorem FG:∀(l:List af)(p:Int×Int),l.foldl jx p=p∨∃v∈l,v.kind=1/\l.foldl jx p=(v.view,v.dZ)
 |[],_=> .inl rfl
 |v::l,p=>by
   rw[Ys];rcases FG l (jx p v)with h|⟨u,hu,h⟩
   · rw[h]
     unfold jx
     split
     · rename_i hk;exact .inr ⟨v,sm,hk.1,rfl⟩
     · exact .inl rfl
   · exact .inr ⟨u,Xa _ hu,h⟩
theorem KU{p:Int×Int}(h:(0<=p.1/\p.1<=60)/\(0<=p.2/\p.2<=40)):(cU (hU p).abs).2=0:=by
 have hf:df (hU p).abs=true:=(aD _).2 ⟨by simp[hU,af.abs],by simp[hU,af.abs],h.1,h.2,by simp[hU,af.abs,af.zero],fun _=>⟨rfl,rfl,rfl⟩,fun _=>rfl⟩;have hl:(told (hU p).abs).length<=65536:=by
   have h:=bw 0 om;simp[told,head,texts,aY,eT,hU,af.abs,af.zero];omega
 unfold cU;rw[if_neg (by simp[hU,af.abs,af.zero]),if_neg (by simp[hU,af.abs,af.zero,iz]),if_neg om,if_pos hf]
theorem Fb(hc:qQ l):qQ (fg l):=fun v hv=>by
 rcases qV hv with⟨h0,rfl⟩|⟨h,-⟩|⟨h,-⟩
 · refine KU ?_
   rcases FG l (-1,-1)with h|⟨u,hu,hk,h⟩
   · have h:fX l=(-1,-1):=h
     rw[h]at h0;exact absurd h0 dc
   · have h:fX l=(u.view,u.dZ):=h
     obtain⟨-,-,hvw,hrg,-⟩:=(aD _).1 (iT (hc u hu));rw[h];exact⟨hvw,hrg⟩
 · exact hc v h
 · exact hc v h
theorem rA(hv:v∈fg l):1<v.kind->v.slot=bZ l:=fun hk=>by
 rcases qV hv with⟨h0,rfl⟩|⟨-,-,h,-⟩|⟨-,-,h,-⟩
 · exact absurd hk (by simp[hU])
 · exact h
 · exact h
theorem Kg(hc:qQ l)(k:Nat)(hk:k<(fg l).length):fh ((fg l).take k) (fg l)[k]=0:=by
 have hm:=W1 hk;unfold fh;rw[if_neg (by simpa using Fb hc _ hm),if_neg];rintro⟨h1,h2⟩;have h3:=rA hm h1;have h4:bZ ((fg l).take k)<=bZ l:=vi _ _ (lH l) (fun v hv hk=>by rw[rA (Yd hv) hk];exact Int.le_refl _);omega
theorem zo:∀(l:List af)(p:Int×Int),(∀v∈l,v.kind≠1)->l.foldl jx p=p
 |[],_,_=>rfl
 |v::l,p,h=>by rw[Ys,wU (h v sm)];exact zo l p (fun u hu=>h u (by simp[hu]))
theorem EV(h:v∈j8.filterMap (cj l)++(ig l).toList):v.kind≠1/\1<v.kind/\v.slot=bZ l:=by
 rcases Xc.1 h with h|h
 · obtain⟨a,-,ha⟩:=List.mem_filterMap.1 h
   obtain⟨-,h2,h3,-⟩:=jn ha;exact⟨om,om,h3⟩
 · obtain⟨-,h2,h3⟩:=mM (Option.mem_toList.1 h)
   exact⟨om,om,h3⟩
theorem La(l:List af):fX (fg l)=if 0<=(fX l).1 then fX l else(-1,-1):=by
 unfold fg;show(kV l++_).foldl jx (-1,-1)=_;rw[X0,zo _ _ (fun v hv=>(EV hv).1)];unfold kV
 split
 · rename_i h
   show jx (-1,-1) (hU (fX l))=fX l;unfold jx;rw[if_pos ⟨rfl,.inl (by show -1<(fX l).1;omega)⟩];rfl
 · rfl
theorem sO(hc:qQ l):bZ (fg l)=bZ l:=by
 have h1:bZ (fg l)<=bZ l:=vi _ _ (lH l) (fun v hv hk=>by rw[rA hv hk];exact Int.le_refl _);have h0:=lH (fg l);by_cases hp:0<bZ l
 · obtain⟨v,hv,hk,hs⟩:=zv l 0 hp
   have hs:v.slot=bZ l:=hs;have key:∃u∈fg l,1<u.kind:=by
     have hf:=(aD _).1 (iT (hc v hv));have hk3:v.kind<=3:=hf.2.1;by_cases h2:v.kind=2
     · have hw:(cj l ⟨v.view,v.dZ⟩).isSome=true:=by
         unfold cj;rw[List.find?_isSome];exact⟨v,hv,by simp[td,h2,hs]⟩
       obtain⟨u,hu⟩:=XH.1 hw;refine⟨u,?_,by have:=(jn hu).2.1;omega⟩;unfold fg;exact Xo _ (Xx _ (List.mem_filterMap.2 ⟨_,pX hc hw,hu⟩))
     · have ha:(ig l).isSome=true:=xR _ l none (.inr ⟨v,hv,om,hs⟩)
       obtain⟨u,hu⟩:=XH.1 ha;refine⟨u,?_,by have:=(mM hu).2.1;omega⟩;unfold fg;exact Xo _ (Xo _ (Option.mem_toList.2 hu))
   obtain⟨u,hu,huk⟩:=key;have h2:=(lX (fg l) 0).2 u hu huk;have h3:bZ (fg l)=(fg l).foldl fx 0:=rfl;have h4:=rA hu huk;omega
 · have:=lH l
   omega
theorem zh(s:Int):∀(l:List af)(o:Option af),(∀v∈l,v.kind≠3)->l.foldl (gO s) o=o
 |[],_,_=>rfl
 |v::l,o,h=>by
   rw[Ys,show gO s o v=o from if_pos (.inl (h v sm))];exact zh s l o (fun u hu=>h u (by simp[hu]))
theorem KW(hc:qQ l):ig (fg l)=ig l:=by
 show(fg l).foldl (gO (bZ (fg l))) none=ig l;rw[sO hc];unfold fg;rw[←W4,X0,zh _ (kV l++j8.filterMap (cj l))]
 · show(ig l).toList.foldl _ none=ig l
   cases h:ig l with
   |none=>rfl
   |some u=>
     obtain⟨-,h2,h3⟩:=mM h;show gO (bZ l) none u=some u;unfold gO;rw[if_neg om]
 · intro v hv
   rcases Xc.1 hv with hv|hv
   · unfold kV at hv
     split at hv
     · obtain rfl:v=_:=by simpa using hv
       simp[hU]
     · cases hv
   · obtain⟨a,-,ha⟩:=List.mem_filterMap.1 hv
     have:=(jn ha).2.1;omega
theorem pD{f:bG->Option af}{p:af->Bool}(hp:∀b u,f b=some u->p u=decide (b=a)):∀g:List bG,(g.filterMap f).find? p=if a∈g then f a else none
 |[]=>by simp
 |b::g=>by
   have ih:=pD hp g;cases h:f b with
   |none=>
     rw[List.filterMap_cons_none h,ih];by_cases hb:a=b
     · subst hb;simp[h]
     · simp[hb]
   |some u=>
     rw[List.filterMap_cons_some h,YM,hp b u h];by_cases hb:b=a
     · subst hb;simp[h]
     · have hb':¬a=b:=fun e=>hb e.symm
       simp only[hb,decide_false,ih,Xg,hb',false_or]
theorem GL(hc:qQ l)(a:bG):cj (fg l) a=cj l a:=by
 show(fg l).find? (td (bZ (fg l)) a)=_;rw[sO hc];unfold fg;rw[List.find?_append,List.find?_append];have h1:(kV l).find? (td (bZ l) a)=none:=by
   rw[YR];intro v hv;unfold kV at hv
   split at hv
   · obtain rfl:v=_:=by simpa using hv
     simp[td,hU]
   · cases hv
 have h2:(ig l).toList.find? (td (bZ l) a)=none:=by
   rw[YR];intro v hv;have:=(mM (Option.mem_toList.1 hv)).2.1;simp[td,this]
 have h3:(j8.filterMap (cj l)).find? (td (bZ l) a)=if a∈j8 then cj l a else none:=
   pD (fun b u hu=>by
     obtain⟨-,e1,e2,e3,e4⟩:=jn hu;rw[W5];simp only[td,e1,e2,e3,e4,decide_true,Bool.true_and,Xz,decide_eq_true_eq,bG.dk]) j8
 rw[h1,h2,h3];simp only[Option.none_or,Option.or_none];by_cases hg:a∈j8
 · rw[if_pos hg]
 · rw[if_neg hg]
   cases hw:cj l a with
   |none=>rfl
   |some u=>exact absurd (pX hc (by rw[hw];rfl)) hg
theorem HJ{b:fG}(hc:qQ l)(h:ir b (fg l)):ir b l:=by
 have hr:=La l
 constructor
 · rw[h.LL,hr]
   split
   · rfl
   · rename_i hn
     rw[decide_eq_false hn];rfl
 · intro he
   have h1:=h.now he;rw[h.LL,hr]at he
   split at he
   · rename_i hp
     rw[hr,if_pos hp]at h1;exact h1
   · cases he
 · exact h.JL
 · rw[h.slot,sO hc]
 · rw[h.acc,KW hc]
 · intro a
   rw[h.wrote,GL hc]
theorem IQ(l:List af):(fg l).length<=2503:=by
 have h1:(kV l).length<=1:=by unfold kV;split<;>simp
 have h2:(j8.filterMap (cj l)).length<=2501:=Yk (X1 _ _) (by rw[j8,lW];decide);have h3:(ig l).toList.length<=1:=by cases ig l<;>simp
 simp only[fg,WX];omega
end
section
open Go.Maps
section
variable {P:Program} {F:Fence} {n:Nat} {ops:Array Oper} {rest:List Oper} {o:Oper} {a:Act} {Q:Exit->Act->World->Prop} {κ ν:Type} {enc:κ->Value} {ev:ν->Value}
theorem ET(w:World){t k e:TypeId}{r c:Nat}{es:List (iK κ ν)}(ht:P.underlying t=some (.map k e))(h:w.heap[r]? =some (cF enc ev es c)):(Instr.range t (.map (some r))).run P w= .ok (.pointer (some ⟨w.heap.size,0,none⟩)) (w.alloc (.mapIter (some r) c #[] c)):=by
 simp only[Instr.range,Sem.run_bind,run_underlying ht,Result.andThen_ok,gE h,Sem.run_pure,run_newObj];rfl
theorem GO(w:World)(ty:TypeId){it r since last c:Nat}{seen:Array Nat}{es:List (iK κ ν)}(hb:w.heap[it]? =some (.mapIter (some r) since seen last))(hmr:w.heap[r]? =some (cF enc ev es c))(hs:∀e∈es,e.b<since)(hl:∀e∈es,e.b<last):(fE es seen=[]/\(Instr.next (.pointer (some ⟨it,0,none⟩)) false ty).run P w= .ok (.tuple #[.bool false]) w)∨
   ∃e∈fE es seen,∃m,(Instr.next (.pointer (some ⟨it,0,none⟩)) false ty).run P w= .ok (.tuple #[.bool true,enc e.k,ev e.v]) {w with drawn:=m,heap:=w.heap.setIfInBounds it (.mapIter (some r) since (seen.push e.b) c)}:=by
 simp only[Instr.next,Sem.run_bind,my hb,Result.andThen_ok,gE hmr];have hall:(!seen.isEmpty&& !(es.map (fe enc ev)).toArray.isEmpty&&(es.map (fe enc ev)).toArray.all fun x=>decide (x.born≥last))=false:=by
   cases es with
   |nil=>simp
   |cons e es=>
     have:=hl e sm;have hne:¬(e.b≥last):=om;simp[fe,hne]
 rw[hall];simp only[Xm,if_false,Sem.run_bind,Sem.run_pure,Result.andThen_ok];have hleft:(Array.filter (fun e:MapEntry=> !seen.contains e.born) (es.map (fe enc ev)).toArray)=((fE es seen).map (fe enc ev)).toArray:=by
   rw[YE];simp only[fE]
   congr 1
   rw[List.filter_map];rfl
 have hold:(Array.filter (fun e:MapEntry=>decide (e.born<since)) ((fE es seen).map (fe enc ev)).toArray)=((fE es seen).map (fe enc ev)).toArray:=by
   rw[YE]
   congr 1
   rw[List.filter_eq_self];intro a ha;obtain⟨e,he,rfl⟩:=Xd.1 ha;have:=hs e (Yg.1 he).1;exact decide_eq_true this
 have hnew:(Array.filter (fun e:MapEntry=>decide (e.born≥since)) ((fE es seen).map (fe enc ev)).toArray)= #[]:=by
   rw[YE]
   congr 1
   rw[List.filter_eq_nil_iff];intro a ha;obtain⟨e,he,rfl⟩:=Xd.1 ha;have:=hs e (Yg.1 he).1;simpa[fe]using this
 rw[hleft,hold,hnew];cases hlf:fE es seen with
 |nil=>
   have hch:(choose (.mapNext 1)).run P w= .ok 0 w:=by simp[run_choose,Question.forced]
   simp only[X6,Array.append_empty,Y6,Array.isEmpty];simp[hch,Question.forced]
 |cons e0 l0=>
   right
   have hn:((((e0::l0).map (fe enc ev)).toArray++ #[]).map some).size=(e0::l0).length:=sm;have hne:(((e0::l0).map (fe enc ev)).toArray).isEmpty=false:=sm;simp only[hne,Xm,if_false,Array.empty_append];have hchoose:∃i w',(choose (.mapNext ((((e0::l0).map (fe enc ev)).toArray++ #[]).map some).size)).run P w= .ok i w'/\i<(e0::l0).length/\∃m,w'= {w with drawn:=m}:=by
     rw[hn,run_choose]
     split
     · exact⟨0,w,rfl,sm,w.drawn,rfl⟩
     · refine⟨_,_,rfl,?_,_,rfl⟩
       simp only[Question.cut];exact YZ _ sm
   obtain⟨i,w',hc,hi,m,hw2⟩:=hchoose;obtain⟨e,he⟩:∃e,(e0::l0)[i]? =some e:=⟨_,WW hi⟩;have hcand:((((e0::l0).map (fe enc ev)).toArray++ #[]).map some)[i]? =some (some (fe enc ev e)):=by
     rw[Array.append_empty,Array.getElem?_map,YI,XZ,he];rfl
   have hb':w'.heap[it]? =some (.mapIter (some r) since seen last):=by rw[hw2];exact hb
   refine⟨e,List.mem_of_getElem? he,m,?_⟩;simp only[hc,Result.andThen_ok,hcand,Sem.run_bind,tF hb',Sem.run_pure];subst hw2;rfl
theorem Dt(w:World){it r since c:Nat}{seen:Array Nat}{es:List (iK κ ν)}(e:iK κ ν)(hi:w.heap[it]? =some (.mapIter (some r) since (seen.push e.b) c))(hm:w.heap[r]? =some (cF enc ev es c))
   (he:e∈es)(hn:(es.map (·.b)).Nodup):(Instr.entry (.pointer (some ⟨it,0,none⟩))).run P w= .ok (.tuple #[enc e.k,ev e.v]) w:=by
 have hfind:((es.map (fe enc ev)).toArray.find? fun y=>y.born==e.b)=some (fe enc ev e):=by
   rw[List.find?_toArray,List.find?_map];have:es.find? ((fun y:MapEntry=>y.born==e.b)∘fe enc ev)=some e:=by
     clear hm
     induction es with
     |nil=>cases he
     |cons a l ih=>
       simp only[Xt,YB]at hn;rcases Xg.1 he with rfl|he
       · simp[fe]
       · have hne:¬a.b=e.b:=fun h=>hn.1 (h▸Xd.2 ⟨e,he,rfl⟩)
         simp only[YM,Function.comp,fe];have:(a.b==e.b)=false:=by simpa using hne
         rw[this];exact ih he hn.2
   rw[this];rfl
 simp only[Instr.entry,Sem.run_bind,my hi,Result.andThen_ok,gE hm,Array.back?_push];simp only[bne_self_eq_false,Xm,if_false,Sem.run_bind,Sem.run_pure,Result.andThen_ok,hfind];rfl
theorem um(w:World)(hg:o.guard=none)(x:Operand)(t k e:TypeId)(hop:o.op=Op.range t x){r c:Nat}{es:List (iK κ ν)}(ht:P.underlying t=some (.map k e))(hx:a.eval x= .map (some r))(h:w.heap[r]? =some (cF enc ev es c))
   (hK:wpListIn F n P ops Q rest (a.put o.dst (.pointer (some ⟨w.heap.size,0,none⟩))) (w.alloc (.mapIter (some r) c #[] c))):wpListIn F n P ops Q (o::rest) a w:=by
 refine wpListIn_plain hg fun K' hK'=>?_;have hrun:=ET (P:=P) w ht h;unfold Oper.wpIn;refine⟨by simp[Oper.about,hop],?_⟩;rw[Oper.semAt_plain F _ _ (by rw[hop];intro c hc';cases hc')];simp[execOp,hop,hx,hrun,Result.andThen];exact hK' _ _ hK
structure uy(w w':World)(it:Nat)(m:Option Nat)(since last b:Nat)(seen:Array Nat):Prop where
 gr:w.grownBy w' (some it)
 at_:w'.heap[it]? =some (.mapIter m since (seen.push b) last)
theorem uy.of(w:World){it:Nat}{o:Obj}(h:w.heap[it]? =some o)(dr:Nat)(m:Option Nat)(since last b:Nat)(seen:Array Nat):uy w {w with drawn:=dr,heap:=w.heap.setIfInBounds it (.mapIter m since (seen.push b) last)} it m since last b seen:=
 ⟨⟨rfl,rfl,rfl,sm,fun k _ hk=>by show(w.heap.setIfInBounds _ _)[k]? =_;rw[Array.getElem?_setIfInBounds_ne (fun e=>hk (by rw[e]))]⟩,by show(w.heap.setIfInBounds _ _)[_]? =_;rw[Array.getElem?_setIfInBounds_self_of_lt (Xk.1 h).1]⟩
theorem wQ(w:World)(hg:o.guard=none)(x:Operand)(hop:o.op=Op.next x false){it r since last c:Nat}{seen:Array Nat}{es:List (iK κ ν)}(hx:a.eval x= .pointer (some ⟨it,0,none⟩))(hb:w.heap[it]? =some (.mapIter (some r) since seen last))(hmr:w.heap[r]? =some (cF enc ev es c))(hs:∀e∈es,e.b<since)(hl:∀e∈es,e.b<last)
   (hDone:fE es seen=[]->wpListIn F n P ops Q rest (a.put o.dst (.tuple #[.bool false])) w)
   (hMore:∀e∈fE es seen,∀w',uy w w' it (some r) since c e.b seen->wpListIn F n P ops Q rest (a.put o.dst (.tuple #[.bool true,enc e.k,ev e.v])) w'):wpListIn F n P ops Q (o::rest) a w:=by
 refine wpListIn_plain hg fun K' hK'=>?_;unfold Oper.wpIn;refine⟨by simp[Oper.about,hop],?_⟩;rw[Oper.semAt_plain F _ _ (by rw[hop];intro c hc';cases hc')];rcases GO (P:=P) w o.type hb hmr hs hl with⟨h0,hrun⟩|⟨e,he,m,hrun⟩
 · simp[execOp,hop,hx,hrun,Result.andThen]
   exact hK' _ _ (hDone h0)
 · simp[execOp,hop,hx,hrun,Result.andThen]
   exact hK' _ _ (hMore e he _ (uy.of w hb m (some r) since c e.b seen))
end
theorem yr:∀(l m:List Nat),l.Nodup->(∀x∈l,x∈m)->l.length<=m.length
 |[],_,_,_=>Xv _
 |x::l,m,hn,h=>by
   obtain⟨h1,h2⟩:=YB.1 hn;have hx:=h x sm;have:=yr l (m.erase x) h2 (fun y hy=>(List.mem_erase_of_ne (by rintro rfl;exact h1 hy)).2 (h y (by simp[hy])));rw[List.length_erase_of_mem hx]at this;have:=List.length_pos_of_mem hx;simp only[Xq];omega
theorem qY{α β:Type}{f:α->β}{l:List α}(h:(l.map f).Nodup):l.Nodup:=(Y4.1 h).imp fun h e=>h (by rw[e])
theorem Hz{κ ν:Type}{es gs:List (iK κ ν)}(hsub:∀g∈gs,g∈es)(hnd:(gs.map (·.b)).Nodup)(hes:(es.map (·.b)).Nodup)(h:fE es (gs.map (·.b)).toArray=[]):gs.Perm es:=by
 have n1:gs.Nodup:=qY hnd;have n2:es.Nodup:=qY hes;rw[List.perm_ext_iff_of_nodup n1 n2];intro e;refine⟨hsub e,fun he=>?_⟩;have h1:e∉fE es (gs.map (·.b)).toArray:=by rw[h];simp
 have h2:e.b∈gs.map (·.b):=by
   refine Yr fun hn=>h1 (Yg.2 ⟨he,?_⟩);simpa using hn
 obtain⟨g,hg,hgb⟩:=Xd.1 h2;have:g=e:=by
   have hp:=List.pairwise_iff_getElem.1 (List.nodup_iff_pairwise_ne.1 hes);obtain⟨i,hi,rfl⟩:=XU (hsub g hg);obtain⟨j,hj,rfl⟩:=XU he;rcases Nat.lt_trichotomy i j with h|h|h
   · exact absurd (by rw[XP,XP];exact hgb) (hp i j acq afE h)
   · subst h;rfl
   · exact absurd (by rw[XP,XP];exact hgb.symm) (hp j i afE acq h)
 exact this▸hg
theorem Nd{κ ν:Type}{es gs:List (iK κ ν)}(hsub:∀g∈gs,g∈es)(hnd:(gs.map (·.b)).Nodup):gs.length<=es.length:=by
 have:=yr (gs.map (·.b)) (es.map (·.b)) hnd (fun x hx=>by obtain⟨g,hg,rfl⟩:=Xd.1 hx;exact Xd.2 ⟨g,hsub g hg,rfl⟩);simpa using this
set_option maxRecDepth 100000 in
theorem H4(F:Fence)(n:Nat)(hF:F.fn 241)(hro:F.round=none)(hn:1<=n)(l Bm r c:Nat)(es:List (iK bG af))(hg:eQ es c)(J Jx:List bG->World->Prop)
   (hY:∀pre x W,J pre W->pre.length<es.length->YieldAt F (n-1) prog l #[je x] W fun e W'=>(e= .returned (.bool true)/\J (pre++[x]) W'/\KeepsWalks W W')∨(e= .returned (.bool false)/\Jx (pre++[x]) W'))
   (W:World)(hJ:AbidesFrom W.heap.size J)(hm:W.cell? ⟨Bm,0,none⟩=some (.map (some r)))(hr:W.heap[r]? =some (cF je lx es c))(h0:J [] W):CallsIn F n prog 241 #[.func (.yield l) #[] #[],.pointer (some ⟨Bm,0,none⟩)] W fun e W'=>(∃v,e= .returned v)/\((∃ss:List bG,ss.Perm (es.map (·.k))/\J ss W')∨(∃pre,True/\Jx pre W')):=by
 refine callsIn_of_wp func241 rfl hF ?_ hro;simp only[ntmps241,X5,Xq,List.length_nil,Nat.reduceAdd,Nat.reduceSub,Array.replicate_succ,Array.replicate_zero,List.push_toArray,List.append_toArray,Xh,XG]
 gi_wp2_with (first
   |(gi_at_range;refine um _ rfl _ 126 _ _ rfl underlying126 rfl hr ?_)
   |gi_in)
 go_frame
 gi_loopw [3] (fun _ wr=>∃gs:List (iK bG af),wr.heap[W.heap.size]? =some (.mapIter (some r) c (gs.map (·.b)).toArray c)/\wr.heap[r]? =some (cF je lx es c)/\(∀g∈gs,g∈es)/\(gs.map (·.b)).Nodup/\J (gs.map (·.k)) wr)
   (fun _ wr=>match wr.heap[W.heap.size]? with|some (.mapIter _ _ seen _)=>es.length-seen.size|_=>0)
 case atStart=>
   refine⟨[],World.alloc_heap_new W _,(Below.heap_alloc _ _ r (Xk.1 hr).1).trans hr,sm,sm,hJ [] W _ none h0 (World.grownBy_alloc W _ none) (fun r e=>by cases e)⟩
 case round=>
   obtain⟨gs,hit,hmr,hsub,hnd,hJs⟩:=hrel
   gi_wp2_with (first
     |(gi_at_next;refine wQ _ rfl _ rfl rfl hit hmr (fun e he=>hg.lt e he) (fun e he=>hg.lt e he) ?_ ?_)
     |gi_in)
   · intro hl0
     gi_wp2
     go_end0
     exact⟨⟨_,rfl⟩,.inl ⟨_,(Hz hsub hnd hg.born hl0).map _,hJs⟩⟩
   · intro e he w2 hw2
     obtain⟨hees,hnew⟩:=Yg.1 he;have hnew:e.b∉gs.map (·.b):=by simpa using hnew
     have hsub2:∀g∈gs++[e],g∈es:=fun g hg=>(Xc.1 hg).elim (hsub g) (fun h=>by obtain rfl:g=e:=afh;exact hees);have hnd2:((gs++[e]).map (·.b)).Nodup:=by
       rw[Xi,Y3];exact⟨hnd,sm,fun a ha b hb=>by obtain rfl:b=e.b:=ad5;rintro rfl;exact hnew ha⟩
     have hlen:=Nd hsub2 hnd2;rw[WX]at hlen;have hlen:gs.length+1<=es.length:=hlen;have hlt:W.heap.size<wr.heap.size:=(Xk.1 hit).1;have hgr:=hw2.gr;have hJ2:J (gs.map (·.k)) w2:=hJ _ wr w2 (some W.heap.size) hJs hgr (fun r e=>by cases e;exact⟨W8 _,_,hit,rfl⟩);have hit2:=hw2.at_;have hne:r≠W.heap.size:=by intro h;rw[h,hit]at hmr;cases hmr
     have hmr2:w2.heap[r]? =some (cF je lx es c):=(hgr.block r (Xk.1 hmr).1 (fun h=>hne (by cases h;rfl))).trans hmr;have hen:=Dt (P:=prog) w2 e hit2 hmr2 hees hg.born;have hek:je e.k= .agg #[.int .i64 e.k.view,.int .i64 e.k.dZ]:=rfl;rw[hek]at hen ⊢;have hJa:J (gs.map (·.k)) (w2.alloc (.cells #[.int .i64 e.k.view,.int .i64 e.k.dZ] 128)):=hJ _ w2 _ none hJ2 (World.grownBy_alloc w2 _ none) (fun r e=>by cases e);obtain⟨fn,tmps,assign,body,hy,hR⟩:=hY _ e.k _ hJa so;rw[hek]at hy;have hita:(w2.alloc (.cells #[.int .i64 e.k.view,.int .i64 e.k.dZ] 128)).heap[W.heap.size]? =some (.mapIter (some r) c ((gs.map (·.b)).toArray.push e.b) c):=(Below.heap_alloc _ _ _ (Xk.1 hit2).1).trans hit2;have hmra:(w2.alloc (.cells #[.int .i64 e.k.view,.int .i64 e.k.dZ] 128)).heap[r]? =some (cF je lx es c):=(Below.heap_alloc _ _ _ (Xk.1 hmr2).1).trans hmr2;clear hw2
     gi_wp2
     refine hR.mono ?_;rintro e' W3 (⟨rfl,hJ3,hk3⟩|⟨rfl,hJx3⟩)
     · gi_wp2
       have hit3:=hk3.same _ _ hita rfl
       go_roundw
       case rel=>exact⟨gs++[e],by rw[hit3];simp,hk3.same _ _ hmra rfl,hsub2,hnd2,by simpa using hJ3⟩
       case measure=>rw[hit3,hit];simp;omega
     · gi_wp2
       refine bodyPost_ret (results_none rfl _ _ _) rfl ?_;exact⟨⟨_,rfl⟩,.inr ⟨_,trivial,hJx3⟩⟩
theorem Cq(F:Fence)(n:Nat)(hF:F.fn 241)(hro:F.round=none)(hn:1<=n)(Bm r c:Nat)(es:List (iK bG af))(hg:eQ es c)(w:World)(hBm:Bm<w.heap.size)(hm:w.cell? ⟨Bm,0,none⟩=some (.map (some r)))(hr:w.heap[r]? =some (cF je lx es c)):SeqStopsA F n prog 241 #[.pointer (some ⟨Bm,0,none⟩)] (fun x=> #[je x]) (fun ss=>ss.Perm (es.map (·.k))) (fun _=>True) es.length w:=fun l J Jx W hW hJ _ hY h0=>
 H4 F n hF hro hn l Bm r c es hg J Jx hY W hJ ((hW.cell (p:=⟨Bm,0,none⟩) hBm).trans hm) ((hW.block r (Xk.1 hr).1).trans hr) h0
end
section
open Go.Maps
def Ms(p:Prop):Prop:=p
theorem Ms.of{p:Prop}(h:Ms p):p:=h
theorem GF(W:World)(t:TypeId)(a b:Value):∀j u,[a,b][j]? =some u->(W.alloc (.cells #[a,b] t)).cell? ((⟨W.heap.size,0,none⟩:Addr).add j)=some u:=fun j u h=>by
 have hb:(W.alloc (.cells #[a,b] t)).heap[W.heap.size]? =some (.cells #[a,b] t (0,0)):=World.alloc_heap_new W _;rw[fI,di hb];simpa using h
def O1(w:World)(ss:List bG)(W:World):Prop:=
 (∃v,W.heap[w.heap.size]? =some (.cells #[v] 277 (0,0))/\W.ownsRow w.heap.size 128 2 v ss.length (ss.flatMap bG.list)/\(v= .slice none 0 0↔ss=[]))/\Below w.heap.size w W
theorem O1.own(w:World)(B:Nat)(hB:w.heap.size<B):OwnFrom B (O1 w):=fun s W W' row h hg hr=>by
 obtain⟨⟨v,hv,hrow,hn⟩,hb⟩:=h;refine⟨⟨v,(hg.block _ (Xk.1 hv).1 (fun e=>by have:=(hr _ e.symm).1;omega)).trans hv,hrow.kept hg ?_,hn⟩,hb.grown hg hb.size (fun k e=>by have:=(hr k e).1;omega)⟩;rcases hrow.2 with⟨rfl,_⟩|⟨g,cap,cur,rfl,_,hgb,_⟩
 · exact .inl rfl
 · refine .inr fun e'=>?_
   obtain⟨-,o,ho,hw⟩:=hr g (by simpa[Value.ownBlock]using e'.symm);rw[hgb]at ho;cases ho;cases hw
set_option maxRecDepth 100000 in
set_option maxHeartbeats 2000000 in
theorem ER(F:Fence)(n:Nat)(h11:F.fn 267)(hro:F.round=none)(hn:2<=n)(g:Nat)(lb:Array Value)(hFg:F.fn g)(eg:∀args w,(callFunc g args).run prog w= .ok (.enter g args) w)(Sx:List bG->Prop)(N:Nat)(hN:N<=100000)(w:World)
   (hseq:SeqStopsA F (n-1) prog g lb (fun x=> #[je x]) Sx (fun _=>True) N w):CallsIn F n prog 267 #[.slice none 0 0,.func (.func g) #[] lb] w fun e w'=>∃(v:Value)(ss:List bG),e= .returned v/\Sx ss/\w'.ownsRow w.heap.size 128 2 v ss.length (ss.flatMap bG.list)/\Below w.heap.size w w':=by
 have h1:1<=n:=om;refine callsIn_of_wp_marks func267 rfl h11 ?_ hro;simp only[ntmps267,X5,Xq,List.length_nil,Nat.reduceAdd,Nat.reduceSub,Array.replicate_succ,Array.replicate_zero,List.push_toArray,List.append_toArray,Xh,XG]
 gi_wp2
 obtain⟨W0,hW0⟩:∃W0,w.alloc (.cells #[.slice none 0 0] 277)=W0:=⟨_,rfl⟩;have hs0:W0.heap.size=w.heap.size+1:=by rw[←hW0];simp
 have hv0:W0.heap[w.heap.size]? =some (.cells #[.slice none 0 0] 277 (0,0)):=by rw[←hW0];exact World.alloc_heap_new w _
 have hb0:Below w.heap.size w W0:=by rw[←hW0];exact(Below.refl _ w).alloc (W8 _) _
 rw[hW0];refine wpIn_rangeFunc_ownH hro h1 (gf:=g) (lb:=lb) rfl hFg eg (seqStopsA_iff.1 hseq) walksK_t walksK_b hb0 (fun _=>rfl) (O1 w) (fun _ _ _=>False) (O1.own w _ om) (fun _ _ _ _ _ h=>h.elim)
   ⟨⟨_,hv0,⟨rfl,.inl ⟨rfl,rfl⟩⟩,sm⟩,hb0⟩
   (fun x a' W=>∃Bx,w.heap.size<Bx/\W.heap[Bx]? =some (.cells x.cells 128 (0,0))/\a'= {tmps:= #[.slice none 0 0,.func (.func g) #[] lb,.pointer (some ⟨w.heap.size,0,none⟩),undef,.slice none 0 0,.pointer (some ⟨Bx,0,none⟩),.func (.func g) #[] lb,je x,undef,undef,undef,undef,undef],defers:=[]})
   (fun x a' _ X Y row hs hg hr=>by obtain⟨Bx,h1,h2,h3⟩:=hs;exact⟨Bx,h1,(hg.block _ (Xk.1 h2).1 (fun e=>by obtain⟨-,o,ho,hc⟩:=hr _ e.symm;rw[h2]at ho;cases ho;cases hc)).trans h2,h3⟩)
   ?assign ?body ?done (fun _ _ _ _ _ _ h=>h.elim)
 case assign=>
   rintro l pre x W K hI hK;have hex:je x= .agg #[.int .i64 x.view,.int .i64 x.dZ]:=rfl;have hK:=fun a' W' h1 h2 h3 h4=>hK a' W' h1 h2 h3 h4;simp only[hex]at hK ⊢
   gi_wp2_with (rw[Oper.semAt_eq _ _ _ (fun c h=>by cases h)];go_simp;try go_bits)
   exact hK _ _ ((KeepsOthers.alloc _ _).from _) (KeepsWalks.alloc _ _) ((O1.own w (w.heap.size+1) om).alloc _ hI) ⟨W.heap.size,by have:=hI.2.size;obtain⟨⟨v,hv,-⟩,-⟩:=hI;exact(Xk.1 hv).1,World.alloc_heap_new W _,rfl⟩
 case body=>
   rintro l pre x a' W hl ⟨r,hr⟩ hI ⟨Bx,hBx,bX,rfl⟩ hlt;obtain⟨⟨v,hv,hrow,hnil⟩,hbe⟩:=hI;have hc:W.cell? ⟨w.heap.size,0,none⟩=some v:=by rw[di hv];rfl
   have hf:W.frozen? ⟨w.heap.size,0,none⟩=false:=by simp[World.frozen?,hv]
   have hx0:W.cell? ⟨Bx,0,none⟩=some (.int .i64 x.view):=by rw[di bX];rfl
   have hx1:W.cell? ⟨Bx,1,none⟩=some (.int .i64 x.dZ):=by rw[di bX];rfl
   obtain⟨i0,hi,hz0,hz1,hz2⟩:=info_parts (P:=prog) (e:=128) (z:= .agg #[.int .i64 0,.int .i64 0]) (size:=2) (bytes:=16) kr;have hbv:Boxed W w.heap.size 277 v:=hv;have hsz:=hbe.size
   gi_wp2_with (first|(gi_at_builtin;refine Ms.of ?_)|(rw[Oper.semAt_eq _ _ _ (fun c h=>by cases h)];go_simp;try go_bits))
   unfold Ms;refine wpListIn_append_own _ rfl _ _ 277 rfl w.heap.size 128 i0 (.agg #[.int .i64 0,.int .i64 0]) 2 16 underlying277 hi hz0 hz1 hz2 rfl dc v pre.length _ rfl (hrow.alloc _) ⟨W.heap.size,0,none⟩ 1 1 [.int .i64 x.view,.int .i64 x.dZ] rfl rfl (GF W _ _ _) agm agI om so ?_;intro v' w3 hown' hg3 hnil3;obtain⟨g',cap',rfl⟩:=ownsRow_succ hown';obtain⟨hb3,hbs,hrs,hko,hbl⟩:=Boxed.appended hbv dc hrow hbe.size (W8 _) hown' hg3;have hc3:=hb3.cell;have hf3:=hb3.frozen
   go_frame
   gi_wp2_with (rw[Oper.semAt_eq _ _ _ (fun c h=>by cases h)];go_simp;try go_bits)
   exact⟨hko.from _,hko.walks,⟨_,hbs,by simpa[bG.list]using hrs,sm⟩,hbe.trans hbl⟩
 case done=>
   rintro D xs W hD hS ⟨⟨v,hv,hrow,hnil⟩,hbe⟩ hK;have hc:W.cell? ⟨w.heap.size,0,none⟩=some v:=by rw[di hv];rfl
   have hf:W.frozen? ⟨w.heap.size,0,none⟩=false:=by simp[World.frozen?,hv]
   gi_wp2
   refine⟨sm,.inl ⟨_,_,rfl,run_takeDeferred hK,?_⟩⟩;exact⟨_,results_tmp rfl _ _ _,v,xs,rfl,hS,ownsRow_putObj hrow _ hK rfl,hbe.grown (grownBy_putObj' _ _ _) hbe.size (fun k e=>by cases e;omega)⟩
set_option maxRecDepth 100000 in
theorem Ci(F:Fence)(n:Nat)(h8:F.fn 239)(h11:F.fn 267)(hro:F.round=none)(hn:3<=n)(g:Nat)(lb:Array Value)(hFg:F.fn g)(eg:∀args w,(callFunc g args).run prog w= .ok (.enter g args) w)(Sx:List bG->Prop)(N:Nat)(hN:N<=100000)(w:World)
   (hseq:SeqStopsA F (n-1-1) prog g lb (fun x=> #[je x]) Sx (fun _=>True) N w):CallsIn F n prog 239 #[.func (.func g) #[] lb] w fun e w'=>∃(v:Value)(ss:List bG),e= .returned v/\Sx ss/\w'.ownsRow w.heap.size 128 2 v ss.length (ss.flatMap bG.list)/\Below w.heap.size w w':=by
 have h1:1<=n:=om;have e11:∀args w,(callFunc 267 args).run prog w= .ok (.enter 267 args) w:=enters_of func267 kr rfl;refine callsIn_of_wp func239 rfl h8 ?_ hro;simp only[ntmps239,X5,Xq,List.length_nil,Nat.reduceAdd,Nat.reduceSub,Array.replicate_succ,Array.replicate_zero,List.push_toArray,List.append_toArray,Xh,XG]
 gi_wp2_with (gi_at_call 267;refine(ER F (n-1) h11 hro om g lb hFg eg Sx N hN _ hseq).mono ?_;rintro e w' ⟨v,ss,rfl,hS,hrow,hb⟩)
 go_ret
 exact⟨v,ss,rfl,hS,hrow,hb⟩
end
section
open Go.Maps Go.Sort Go.Shelf Go.Lib
variable {w0:World} {H:List SA} {c r:Nat} {a:Option Addr} {f:Value}
theorem GS:CT prog w0 (H) 213 [.int .u64 0] (α:=Unit) (fun _=> .int .i64 0) (fun _=>H):=by
 refine al func213 rfl ntmps213 rfl (gG ?_);refine Zb ?_;refine Zb ?_;refine Zb ?_;refine zq (bV rfl rfl underlying5) rfl (zq (nK (j:=0) (0:UInt8) rfl rfl underlying9 kr) rfl (zq (bV rfl rfl underlying3) rfl (zq (bI (v':= .int .i64 0) (bU rfl rfl) aeE) rfl ?_)));refine gG ?_;exact zX () [_] results213 ⟨rfl,trivial⟩ rfl SB
theorem LC:CT prog w0 (H) 125 [.int .u64 0] (α:=Unit) (fun _=> .int .i64 0) (fun _=>H):=by
 refine al func125 rfl ntmps125 rfl (gG ?_);refine Zb ?_;refine ze rfl (zc (GS) rfl (fun x7=>gG ?_));exact zX () [_] results125 ⟨rfl,trivial⟩ rfl SB
theorem Np:CT prog w0 (H) 287 [.slice a 0 c,.int .i64 0,.int .i64 0,f] (α:=Unit) (fun _=> .tuple #[]) (fun _=>H):=by
 refine al func287 rfl ntmps287 rfl (gA ?_);refine gD (cc ?_);refine gG ?_;refine Zb ?_;refine Zl ?_;exact zX () [] results287 trivial rfl SB
theorem NP{l:Int}:CT prog w0 (H) 268 [.slice a 0 c,.int .i64 0,.int .i64 0,.int .i64 l,f] (α:=Unit) (fun _=> .tuple #[]) (fun _=>H):=by
 refine al func268 rfl ntmps268 rfl (gG ?_);refine gD (cc ?_);refine gA ?_;refine Ze ?_;refine ze rfl (zc (Np) rfl (fun x30=>gG ?_));refine Zk ?_;exact zX () [] results268 trivial rfl SB
theorem H9:CT prog w0 (H) 240 [.slice a 0 c,f] (α:=Unit) (fun _=> .tuple #[]) (fun _=>H):=by
 refine al func240 rfl ntmps240 rfl (gG ?_);refine zq (bV rfl rfl underlying224) rfl ?_;refine ze rfl (zc (LC) rfl (fun x11=>gG ?_));refine ze rfl (zc (NP) rfl (fun x13=>gG ?_));exact zX () [] results240 trivial rfl SB
theorem FH:CT prog w0 (H) 176 [.map (some r)] (α:=Nat) (fun b=> .func (.func 241) #[] #[.pointer (some ⟨b,0,none⟩)]) (fun b=>aF b (.cells #[.map (some r)] 126 (0,0))::H):=by
 refine al func176 rfl ntmps176 rfl (gG ?_);refine ze rfl (z6 (.map _) rfl (fun b1=>gG ?_));refine zq (ub (args:=[.pointer _]) rfl) rfl ?_;refine gG ?_;exact zX b1 [_] results176 ⟨rfl,trivial⟩ rfl SB
abbrev EK:=Fin 61×Fin 41
def tY(x:EK):bG:=⟨(x.1.val:Int),(x.2.val:Int)⟩
def gU(x:EK):List Value:=[.int .i64 (x.1.val:Int),.int .i64 (x.2.val:Int)]
def Kz(x y:EK):Int:=if x.1.val=y.1.val then(x.2.val:Int)-(y.2.val:Int)else(x.1.val:Int)-(y.1.val:Int)
theorem I1(x:EK):(tY x).list=gU x:=rfl
theorem Ir(ks:List EK):(ks.map tY).flatMap bG.list=ks.flatMap gU:=by
 induction ks with
 |nil=>rfl
 |cons k ks ih=>rw[Xt,Xw,Xw,ih,I1]
theorem K8{a:bG}(h:a∈j8):∃x:EK,a=tY x:=by
 obtain⟨⟨h1,h2⟩,h3,h4⟩:=(CO a).1 h;refine⟨(⟨a.view.toNat,om⟩,⟨a.dZ.toNat,om⟩),?_⟩;cases a;simp only[tY,bG.mk.injEq];simp only at h1 h3;omega
theorem Bk:∀(ss:List bG),(∀a∈ss,a∈j8)->∃ks:List EK,ss=ks.map tY
 |[],_=>⟨[],rfl⟩
 |a::ss,h=>by
   obtain⟨x,hx⟩:=K8 (h a sm);obtain⟨ks,hk⟩:=Bk ss (fun b hb=>h b (by simp[hb]));exact⟨x::ks,by rw[hx,hk];rfl⟩
theorem Fg(x y:EK):ltOf Kz x y=true↔x.1.val<y.1.val∨(x.1.val=y.1.val/\x.2.val<y.2.val):=by
 unfold ltOf Kz;rw[decide_eq_true_eq]
 split<;>omega
theorem Ay(x y:EK):ltOf Kz x y=false↔¬(x.1.val<y.1.val∨(x.1.val=y.1.val/\x.2.val<y.2.val)):=by
 rw[←Fg,W9]
theorem Pw:SWO (ltOf Kz):=
 ⟨fun x=>by rw[Ay];omega,fun x y z h1 h2=>by rw[Fg]at*;omega,fun x y z h1 h2=>by rw[Ay]at*;omega⟩
theorem kG(x:EK):(gU x).length=2:=rfl
theorem CL(ks:List EK):flatK gU 2 ks.toArray=(ks.flatMap gU).toArray:=by
 have hl:=fy gU 2 kG ks;refine ext_get! (by simp[hl]) (fun t ht=>?_);have ht:t<ks.length*2:=by simpa using ht
 rw[get_flatK _ _ _ t (by simpa using ht)];have hi:t/2<ks.length:=om;have h2:=iL gU 2 kG ks (t/2) (t%2) hi om;rw[show t/2*2+t%2=t by omega]at h2;rw[getElem!_pos ks.toArray (t/2) acq,getElem!_pos (ks.flatMap gU).toArray t (by simp[hl];exact ht)];have h3:(ks.flatMap gU)[t]? =some (ks.flatMap gU)[t]:=WW (by rw[hl];exact ht);rw[h3,WW (by rw[kG];omega)]at h2;simp only[Yq]at h2;simp only[List.getElem_toArray];rw[h2,getElem!_pos _ _ (by rw[kG];omega)]
theorem Pr(x y:EK)(W:World):Calls prog 177 #[.agg (gU x).toArray,.agg (gU y).toArray] W fun e w'=>e= .returned (.int .i64 (Kz x y))/\∃q os',w'=grow (W.drewN q) os':=by
 obtain⟨⟨x1,hx1⟩,⟨x2,hx2⟩⟩:=x;obtain⟨⟨y1,hy1⟩,⟨y2,hy2⟩⟩:=y;have e1:IntKind.i64.wrap ((x1:Int)-(y1:Int))=(x1:Int)-(y1:Int):=abS;have e2:IntKind.i64.wrap ((x2:Int)-(y2:Int))=(x2:Int)-(y2:Int):=abS;by_cases h:x1=y1
 · subst h
   simp only[gU,Kz,if_true]
   go_enter func177,ntmps177
   go_wp2
   go_ret
   exact⟨by simp[e2],0,_,by rw[alloc_eq_grow,alloc_eq_grow,grow_grow];rfl⟩
 · simp only[gU,Kz,if_neg h]
   have h':((x1:Int)==(y1:Int))=false:=so
   go_enter func177,ntmps177
   go_wp2
   go_ret
   exact⟨by simp[e1],0,_,by rw[alloc_eq_grow,alloc_eq_grow,grow_grow];rfl⟩
theorem Js(aF off size:Nat)(w:World):CmpLays prog 177 #[] gU 2 Kz aF off size w:=fun _ _ _ _ x y=>Pr x y _
def ri(ks:List EK):Prop:=ks.Pairwise fun x y=>ltOf Kz y x=false
theorem KK{ks:List EK}(hk:ks.length<=100000):CT prog w0 (row (.slice a ks.length c) 128 2 (ks.flatMap gU)::H) 240 [.slice a ks.length c,.func (.func 177) #[] #[]] (α:=List EK) (fun _=> .tuple #[]) (fun ys=>pu (ys.Perm ks/\ri ys)::row (.slice a ks.length c) 128 2 (ys.flatMap gU)::H):=fun w hw=>by
 cases hks:ks with
 |nil=>
   subst hks;refine(H9 (a:=a) (c:=c) (f:= .func (.func 177) #[] #[]) w hw).mono ?_;rintro e w' ⟨x,rfl,hw'⟩;exact⟨[],rfl,hw'.aC ⟨List.Perm.refl _,List.Pairwise.nil⟩⟩
 |cons k0 kt=>
   rw[←hks];have h0:0<ks.length:=by rw[hks];simp
   obtain⟨a',n',c',hv,hl,hn,hc,ha,hx⟩:=hw.holds (row (.slice a ks.length c) 128 2 (ks.flatMap gU)) sm;cases hv;have hc0:c≠0:=om;obtain⟨g,cur,rfl,hg,hcs,htk⟩:=hx hc0;have hgl:g<w.heap.size:=(Xk.1 hg).1;have hfl:=fy gU 2 kG ks;have hH:HoldsK gU 2 w g 0 ks.toArray:=by
     intro j hj;have hj:j<ks.length*2:=afE;rw[CL];have h1:cur[j]? =some (ks.flatMap gU)[j]! :=by
       have h2:(cur.toList.take (ks.length*2))[j]? =cur.toList[j]? :=List.getElem?_take_of_lt hj;rw[htk]at h2;rw[←YY,←h2,WW (by rw[hfl];exact hj),getElem!_pos _ _ (by rw[hfl];exact hj)]
     refine⟨?_,?_⟩
     · rw[di hg,XQ,h1];simp
     · simp[World.frozen?,hg]
   have hcon:=AnyQ.slices_SortFunc Ls 2 Tryz.isAgg128 Tryz.sizeOf128 gU kG (fun x v hv=>by simp[gU]at hv;rcases hv with rfl|rfl<;>rfl) Kz Pw 177 #[] g 0 c ks.toArray w
     (enters_of func177 kr rfl) (Js _ _ _ _) hH hgl so
   simp only[X5]at hcon;refine Calls.mono hcon ?_;rintro e w' ⟨rfl,d',n,os,⟨hp1,-,hp2⟩,hsd,rfl⟩;have hp1:d'.size=ks.length:=by simpa using hp1
   have hperm:d'.toList.Perm ks:=by
     have e1:(d'.extract 0 ks.length).toList=d'.toList:=by simp[←hp1]
     have e2:(ks.toArray.extract 0 ks.length).toList=ks:=sm;rw[e1,e2]at hp2;exact hp2
   have hsort:ri d'.toList:=by
     refine List.pairwise_iff_getElem.2 fun i j hi hj hij=>?_;have hi:i<d'.size:=acq;have hj:j<d'.size:=afE;have:=hsd i j (Xv _) hij om;rw[getElem!_pos d' i hi,getElem!_pos d' j hj]at this;simpa using this
   have hfd:flatK gU 2 d'=(d'.toList.flatMap gU).toArray:=by rw[←CL]
   have hfl2:=fy gU 2 kG d'.toList;have hdl:d'.toList.length=ks.length:=hperm.length_eq;refine⟨d'.toList,rfl,(St.swap (w':=sortWorldK gU 2 w g 0 n d' os) (x':=row (.slice (some ⟨g,0,none⟩) ks.length c) 128 2 (d'.toList.flatMap gU)) hw rfl rfl rfl ?_ ?_ ?_ ?_ ?_).aC (And.intro hperm hsort)⟩
   · simp[sortWorldK,grow,putRowK,putRow,mapBlock,ahead]
   · intro k hk hkn
     have hkg:k≠g:=by rintro rfl;exact hkn ahz
     show((w.heap.modify g _)++os)[k]? =_;rw[Array.getElem?_append_left abf,YX,if_neg (fun e=>hkg e.symm)]
   · refine⟨some ⟨g,0,none⟩,ks.length,c,rfl,by rw[hfl2,hdl],hn,hc,(fun h=>by cases h),fun _=>⟨g,Go.Sort.putCells id 0 (flatK gU 2 d') cur,rfl,?_,by simp[Go.Sort.putCells,hcs],?_⟩⟩
     · show((w.heap.modify g _)++os)[g]? =_
       rw[Array.getElem?_append_left (by simpa using hgl),YX,if_pos rfl,hg];rfl
     · rw[hfd]
       apply List.ext_getElem?;intro j;by_cases hj:j<ks.length*2
       · have hjc:j<cur.size:=by rw[hcs];exact Nat.lt_of_lt_of_le hj (Xp 2 hn)
         rw[List.getElem?_take_of_lt hj,YY,Go.Sort.putCells,Array.getElem?_mapIdx,Array.getElem?_eq_getElem hjc];simp only[XK,X5,Xv,true_and,XQ,Nat.sub_zero,hfl2,hdl,hj,if_true,id];rw[WW (by rw[hfl2,hdl];exact hj),getElem!_pos _ _ (by simp[hfl2,hdl];exact hj)];simp
       · rw[XT so,XT (by rw[hfl2,hdl];omega)]
   · simp[row,bQ,hc0]
   · intro b hb
     obtain rfl:b=g:=by simpa[row,bQ,hc0]using hb
     exact⟨.inl ahz,by simp[sortWorldK,grow,putRowK,putRow,mapBlock,ahead];omega⟩
theorem EG{b:Nat}{es:List (iK bG af)}[hb:Mem w0 H b (.cells #[.map (some r)] 126 (0,0))][hm:Mem w0 H r (cF je lx es c)](hg:eQ es c)(hin:∀e∈es,e.k∈j8)(hn:es.length<=100000):CT prog w0 H 239 [.func (.func 241) #[] #[.pointer (some ⟨b,0,none⟩)]] (α:=AC×List EK) (fun y=> .slice y.1.a y.2.length y.1.c) (fun y=>pu ((y.2.map tY).Perm (es.map (·.k)))::row (.slice y.1.a y.2.length y.1.c) 128 2 (y.2.flatMap gU)::H):=fun w hw=>by
 have h1:=hb.get w hw;refine(callsIn_wide.1 (Ci Fence.wide 5 trivial trivial rfl om 241 #[.pointer (some ⟨b,0,none⟩)] trivial (enters_of func241 kr rfl) (fun ss=>ss.Perm (es.map (·.k))) es.length hn w
   (Cq Fence.wide _ trivial rfl om b r c es hg w (Xk.1 h1).1 (by rw[di h1];rfl) (hm.get w hw)))).mono ?_
 rintro e w' ⟨v,ss,rfl,hS,hrow,hbe⟩;obtain⟨ks,rfl⟩:=Bk ss (fun a ha=>by
   obtain⟨e,he,rfl⟩:=Xd.1 (hS.mem_iff.1 ha);exact hin e he)
 rw[Ir,WZ]at hrow;obtain⟨q1,q2⟩:=hrow;rcases q2 with⟨rfl,h0⟩|⟨g,cap,cur,rfl,hge,hgc,q3,q4,q5,q6⟩
 · obtain rfl:=Xr h0
   refine⟨(⟨none,0⟩,[]),rfl,(hw.fresh (x':=row (.slice none 0 0) 128 2 []) hbe.os hbe.tape hbe.output hbe.size hbe.block ?_ aee aee).aC hS⟩;exact⟨none,0,0,rfl,rfl,W8 _,by unfold maxLen;omega,fun _=>rfl,fun h=>absurd rfl h⟩
 · have hgl:g<w'.heap.size:=(Xk.1 hgc).1
   refine⟨(⟨some ⟨g,0,none⟩,cap⟩,ks),rfl,(hw.fresh (x':=row (.slice (some ⟨g,0,none⟩) ks.length cap) 128 2 (ks.flatMap gU)) hbe.os hbe.tape hbe.output hbe.size hbe.block ?_ ?_ ?_).aC hS⟩
   · exact⟨some ⟨g,0,none⟩,ks.length,cap,rfl,q1,q3,q4,(fun h=>by cases h),fun _=>⟨g,cur,rfl,hgc,q5,q6⟩⟩
   · by_cases h0:cap=0<;>simp[row,bQ,h0]
   · intro b' hb'
     by_cases h0:cap=0
     · simp[row,bQ,h0]at hb'
     · obtain rfl:b'=g:=by simpa[row,bQ,h0]using hb'
       exact⟨hge,hgl⟩
theorem Ba{ks:List EK}{l:List bG}(hp:(ks.map tY).Perm l)(hs:ri ks)(hn:l.Nodup):(ks.map tY).Pairwise o8:=by
 have hnd:(ks.map tY).Nodup:=hp.nodup_iff.2 hn;have h2:ks.Pairwise fun x y=>tY x≠tY y:=Y4.1 hnd;refine Y4.2 ((hs.and h2).imp fun{x y} h=>?_);obtain⟨h1,h2⟩:=h;rw[Ay]at h1;have h3:¬(x.1.val=y.1.val/\x.2.val=y.2.val):=fun h=>h2 (by unfold tY;rw[h.1,h.2]);show(x.1.val:Int)<(y.1.val:Int)∨((x.1.val:Int)=(y.1.val:Int)/\(x.2.val:Int)<(y.2.val:Int));omega
theorem yp{b:Nat}{es:List (iK bG af)}[hb:Mem w0 H b (.cells #[.map (some r)] 126 (0,0))][hm:Mem w0 H r (cF je lx es c)](hg:eQ es c)(hin:∀e∈es,e.k∈j8)(hn:es.length<=100000):CT prog w0 (H) 175 [.func (.func 241) #[] #[.pointer (some ⟨b,0,none⟩)],.func (.func 177) #[] #[]] (α:=AC×List EK) (fun y=> .slice y.1.a y.2.length y.1.c) (fun y=>pu ((y.2.map tY).Perm (es.map (·.k))/\ri y.2)::row (.slice y.1.a y.2.length y.1.c) 128 2 (y.2.flatMap gU)::H):=by
 refine al func175 rfl ntmps175 rfl (gG ?_);refine ze rfl (zc (EG (b:=b) (r:=r) (c:=c) hg hin hn) rfl (fun x7=>?_));refine aV (fun h7=>?_);have hl7:x7.2.length<=100000:=by have:=h7.length_eq;simp at this;omega
 refine gG ?_;refine ze rfl (zc (KK (a:=x7.1.a) (c:=x7.1.c) (ks:=x7.2) hl7) rfl (fun x10=>?_));refine aV (fun h10=>?_);refine gG ?_;have hle:=h10.1.length_eq;rw[←hle];exact zX (x7.1,x10) [_] results175 ⟨rfl,trivial⟩ rfl (fun w hw=>(SB w hw:St w0 (row (.slice x7.1.a x10.length x7.1.c) 128 2 (x10.flatMap gU)::H) w).aC ⟨(h10.1.map tY).trans h7,h10.2⟩)
end
end Go.Proofs.YtmbfimckmfnnjaaGreatDoor
