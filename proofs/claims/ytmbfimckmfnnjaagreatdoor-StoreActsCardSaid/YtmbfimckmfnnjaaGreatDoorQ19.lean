/- Steps of the proof of a law. -/
import Derived.Test.YtmbfimckmfnnjaaGreatDoorQ18
set_option maxRecDepth 100000
set_option maxHeartbeats 1000000
set_option linter.unusedSimpArgs false
set_option linter.unusedVariables false
namespace Go.Proofs.YtmbfimckmfnnjaaGreatDoor
open Go.RowKit Go.Sx Go.Proofs.Tryz
section
def gu(fp:List Nat)(w:World)(v:Value)(xs:List Value):Prop:=
 ∃a n c,v= .slice a n c/\xs.length=n*1/\n<=c/\c<=maxLen/\(0<xs.length->∃b o,a=some ⟨b,o,none⟩/\b∈fp/\∀j u,xs[j]? =some u->w.cell? ⟨b,o+j,none⟩=some u)
variable {w w0:World} {H:List SA} {fp fp':List Nat} {v:Value} {xs:List Value}
theorem gu.at(h:gu fp w v xs):cY w v 1 xs:=by
 obtain⟨a,n,c,h1,h2,h3,h4,h5⟩:=h;exact ac6
theorem gu.gQ{w':World}(h:gu fp w v xs)(hs:∀b∈fp,b∈fp')(hb:∀b∈fp,w'.heap[b]? =w.heap[b]?):gu fp' w' v xs:=by
 obtain⟨a,n,c,h1,h2,h3,h4,h5⟩:=h;refine⟨a,n,c,h1,h2,h3,h4,fun h0=>?_⟩;obtain⟨b,o,e1,e2,e3⟩:=h5 h0;refine⟨b,o,e1,hs b e2,fun j u hj=>?_⟩;rw[←e3 j u hj];simp only[World.cell?,hb b e2]
theorem lM{e:TypeId}(h:qS v e 1 xs w):gu (bQ v) w v xs:=by
 have hc:=h.cells;obtain⟨a,n,c,hv,hl,hn,hc',ha,hx⟩:=h;refine⟨a,n,c,hv,hl,hn,hc',fun h0=>?_⟩;have hc0:c≠0:=by
   rintro rfl;obtain rfl:n=0:=om;simp at hl;simp[hl]at h0
 obtain⟨g,cur,hg,hw,h1,h2⟩:=hx hc0;obtain⟨a',n',c',hv',-,-,-,hcell⟩:=hc;obtain⟨b,o,hb,hce⟩:=hcell h0;subst hv;subst hg;simp only[Value.slice.injEq]at hv';have hb2:(some (⟨g,0,none⟩:Addr))=some ⟨b,o,none⟩:=hv'.1.trans hb;simp only[Yq,Addr.mk.injEq]at hb2;refine⟨g,0,rfl,by simp[bQ,hc0],fun j u hj=>?_⟩;have:=hce j u hj;rw[←hb2.1,←hb2.2.1]at this;exact aeq
def zM(fp:List Nat)(w:World)(v:af):Prop:=
 k5 fp w (.slice v.batch.a v.batch.l.length v.batch.c) v.batch.l/\gu fp w (.slice v.cert.a v.cert.ls.length v.cert.c) (v.cert.ls.map BS.val)/\∀x∈v.cert.ls,k5 fp w x.val x.l
theorem zM.gQ{w':World}{v:af}(h:zM fp w v)(hs:∀b∈fp,b∈fp')(hb:∀b∈fp,w'.heap[b]? =w.heap[b]?):zM fp' w' v:=
 ⟨h.1.gQ hs hb,h.2.1.gQ hs hb,fun x hx=>(h.2.2 x hx).gQ hs hb⟩
def eG(fp:List Nat)(vs:List af):SA:=⟨fp,fun w=>∀v∈vs,zM fp w v,fun _ _ hb h v hv=>(h v hv).gQ (fun _ h=>h) hb⟩
instance jF.own{vs:List af}:jF w0 (eG fp vs::H) vs:=
 ⟨fun v hv=>⟨fun w hw=>(hw.holds (eG fp vs) sm v hv).1.at⟩,fun v hv=>⟨fun w hw=>(hw.holds (eG fp vs) sm v hv).2.1.at⟩,fun v hv=>⟨fun x hx w hw=>((hw.holds (eG fp vs) sm v hv).2.2 x hx).at⟩⟩
theorem St.iw(h:St w0 H w):St w0 (eG [] []::H) w:=
 h.fresh rfl rfl rfl (W8 _) (fun _ _=>rfl) (fun _ h=>by cases h) (by simp[eG]) (by simp[eG])
theorem St.j3{vs us:List af}(h:St w0 (eG fp vs::eG fp' us::H) w):St w0 (eG (fp++fp') (vs++us)::H) w:=
 h.merge rfl fun h1 h2 v hv=>by
   rcases Xc.1 hv with hv|hv
   · exact(h1 v hv).gQ (fun b hb=>Xx _ hb) (fun _ _=>rfl)
   · exact(h2 v hv).gQ (fun b hb=>Xo _ hb) (fun _ _=>rfl)
theorem St.M8{v:af}(h:St w0 (row (.slice v.cert.a v.cert.ls.length v.cert.c) 47 1 (v.cert.ls.map BS.val)::ep fp v.cert.ls::row (.slice v.batch.a v.batch.l.length v.batch.c) 5 1 (aE v.batch.l)::H) w):∃fp',St w0 (eG fp' [v]::H) w:=by
 have h1:=h.merge (z:=⟨bQ (.slice v.cert.a v.cert.ls.length v.cert.c)++fp,fun w=>gu (bQ (.slice v.cert.a v.cert.ls.length v.cert.c)++fp) w (.slice v.cert.a v.cert.ls.length v.cert.c) (v.cert.ls.map BS.val)/\∀x∈v.cert.ls,k5 (bQ (.slice v.cert.a v.cert.ls.length v.cert.c)++fp) w x.val x.l,fun w w' hb h=>⟨h.1.gQ (fun _ h=>h) hb,fun x hx=>(h.2 x hx).gQ (fun _ h=>h) hb⟩⟩) rfl
   (fun p1 p2=>⟨(lM p1).gQ (fun b hb=>Xx _ hb) (fun _ _=>rfl),fun x hx=>(p2 x hx).gQ (fun b hb=>Xo _ hb) (fun _ _=>rfl)⟩)
 refine⟨_,h1.merge (z:=eG ((bQ (.slice v.cert.a v.cert.ls.length v.cert.c)++fp)++bQ (.slice v.batch.a v.batch.l.length v.batch.c)) [v]) rfl fun p1 p2 u hu=>?_⟩;obtain rfl:u=v:=by simpa using hu
 exact⟨(qS.E3 p2).gQ (fun b hb=>Xo _ hb) (fun _ _=>rfl),p1.1.gQ (fun b hb=>Xx _ hb) (fun _ _=>rfl),fun x hx=>(p1.2 x hx).gQ (fun b hb=>Xx _ hb) (fun _ _=>rfl)⟩
def je(e:bG):Value:= .agg e.cells
def lx(v:af):Value:= .agg v.cells
def iG(a b:bG):Bool:=decide (b.view<a.view)||(decide (a.view=b.view)&&decide (b.dZ<a.dZ))
def j7(k:bl)(a:bG):bl:=bif !k.cO||iG a k.now then{k with now:=a,cO:=true}else k
theorem FQ{a b:bG}:CT prog w0 (H) 136 [.agg a.cells,.agg b.cells] (α:=Unit) (fun _=> .bool (iG a b)) (fun _=>H):=by
 refine al func136 rfl ntmps136 rfl (gG ?_);refine ze rfl (aZ rfl (fun b2=>?_));refine ze rfl (aZ rfl (fun b3=>gG ?_));refine yS 10 ?_ ?_<;>intro h10 p10<;>refine gG ?_
 ·refine adR ?_;refine aaz ?_;simp only[iG];exact abx
 refine yS 16 ?_ ?_<;>intro h16 p16<;>refine gG ?_
 ·refine adR ?_;refine aaz ?_;simp only[iG];exact abx
 refine adR ?_;refine aaz ?_;simp only[iG];exact abx
theorem KE{p:Nat}{k:bl}{a:bG}:CT prog w0 (aF p (.cells k.cells 131 (0,0))::H) 133 [.pointer (some ⟨p,0,none⟩),.agg a.cells] (α:=Unit) (fun _=> .tuple #[]) (fun _=>aF p (.cells (j7 k a).cells 131 (0,0))::H):=by
 refine al func133 rfl ntmps133 rfl (gG ?_);refine ze rfl (aZ rfl (fun b3=>gG ?_));refine dv [(0,true),(1,true),(2,true),(3,true),(4,true),(5,true),(6,true),(7,true),(8,true),(9,true),(10,true),(11,false),(12,true)] (fun hns0=>?_);refine gA ?_;refine yD 9 ?_ ?_<;>intro h9 p9
 ·refine gA ?_;refine Zc ?_;refine aag ?_;refine abN ?_;have e:j7 k a= {k with now:=a,cO:=true}:=by simp only[j7,h9,Bool.true_or,cond_true]
  rw[e];exact afb
 refine bB hns0 rfl rfl rfl h9 (zn rfl rfl) rfl ?_;refine bB hns0 rfl rfl rfl h9 (zm (.pointer _) rfl) rfl ?_;refine bB hns0 rfl rfl rfl h9 (aN rfl) rfl ?_;refine bB hns0 rfl rfl rfl h9 (zf 0 rfl rfl) rfl ?_;refine gA ?_;refine lF rfl rfl rfl h9 rfl (zc (FQ) rfl (fun x15=>⟨SB,?_⟩));refine gA ?_;refine yC ?_ ?_<;>intro h16 p16<;>refine gG ?_
 ·refine aag ?_;refine abN ?_;have p9:(!k.cO)=false:=h9;have e:j7 k a= {k with now:=a,cO:=true}:=by simp only[j7,p9,h16,Bool.false_or,cond_true]
  rw[e];exact afb
 have p9:(!k.cO)=false:=h9;have e:j7 k a=k:=by simp only[j7,p9,h16,Bool.false_or,cond_false]
 rw[e];exact afb
theorem Nk{p:Nat}{k:bl}:CT prog w0 (aF p (.cells k.cells 131 (0,0))::H) 85 [.pointer (some ⟨p,0,none⟩)] (α:=Unit) (fun _=> .int .i64 k.slot) (fun _=>aF p (.cells k.cells 131 (0,0))::H):=by
 refine al func85 rfl ntmps85 rfl (gG ?_);refine Zt ?_;refine yC ?_ ?_<;>intro h4 p4
 ·refine zS (zR (zq (za (.int .i64 _) rfl) rfl (zz (zx (zQ (zr ?_))))));cases h4
 refine gG ?_;exact zX () [_] results85 ⟨rfl,trivial⟩ rfl SB
end
section
theorem bG.check'(k:bG)(empty:Bool)(w:World)(d:Nat):(Instr.checkKey empty (d+1+1) 128 (.agg k.cells)).run prog w= .ok () w:=by
 rw[Instr.checkKey];simp only[Sem.run_bind,run_underlying underlying128,Result.andThen_ok];simp only[List.forIn_toArray,List.forIn_cons,List.forIn_nil,ne_eq,String.reduceEq,not_false_eq_true,if_true,Sem.run_bind,qy,Result.andThen_ok,Instr.checkKey,run_underlying underlying3,Sem.run_pure]
theorem bG.OR(k:bG)(d:Nat):Instr.sameBits (d+2) (.agg k.cells) (.agg k.cells)=true:=by
 simp[Instr.sameBits,bG.cells,bG.list]
instance:Key prog 128 je where
 eq x y w:=mP (x:=je x) (y:=je y) (h:=(inferInstance:KA prog 128 (.agg x.cells) (.agg y.cells) _)) w
 now d _ x y:= .inl (BI d _ _)
 there:=by rw[underlying128];rfl
 check k empty w:=bG.check' k empty w 9998
 same k:=by
   have h:∀n:Nat,n=9998+2->Instr.sameBits n (je k) (je k)=true:=fun n hn=>by rw[hn];exact bG.OR k 9998
   exact h 10000 dc
theorem sS:(Tryz.prog.info? 57).bind (·.zero)=some (lx af.zero):=(inferInstance:lT prog 57 (.agg af.zero.cells)).ok
theorem Hd{w0 w:World}{H:List SA}{b1 b2:Nat}{v u:af}{ls:List BS}{a1 a8:Option Addr}{c1 c8:Nat}{l:List UInt8}{fp:List Nat}
   (h:St w0 (aF b2 (.cells u.cells 57 (0,0))::aF b1 (.cells u.cells 57 (0,0))::row (.slice a1 ls.length c1) 47 1 (ls.map BS.val)::ep fp ls::row (.slice a8 l.length c8) 5 1 (aE l)::H) w)(hu:u= {v with batch:=⟨a8,c8,l⟩,cert:=⟨a1,c1,ls⟩}):∃fp2,St w0 (eG fp2 [u]::aF b2 (.cells u.cells 57 (0,0))::H) w:=by
 subst hu;have h1:St w0 (row (.slice a1 ls.length c1) 47 1 (ls.map BS.val)::ep fp ls::row (.slice a8 l.length c8) 5 1 (aE l)::aF b2 (.cells ({v with batch:=⟨a8,c8,l⟩,cert:=⟨a1,c1,ls⟩}:af).cells 57 (0,0))::H) w:=cJ.st inferInstance w h;exact St.M8 (v:= {v with batch:=⟨a8,c8,l⟩,cert:=⟨a1,c1,ls⟩}) h1
theorem rW{w0:World}{H:List SA}{v:af}[rbv:dT w0 H (.slice v.batch.a v.batch.l.length v.batch.c) v.batch.l][Cd:gy w0 H (.slice v.cert.a v.cert.ls.length v.cert.c) 1 (v.cert.ls.map BS.val)][rev:ju w0 H v.cert.ls](hs:ff v.abs):CT prog w0 (H) 135 [.agg v.cells] (α:=af×List Nat) (fun y=> .agg y.1.cells) (fun y=>pu (y.1.abs=v.abs)::eG y.2 [y.1]::H):=by
 refine al func135 rfl ntmps135 rfl (gG ?_);refine ze rfl (aZ rfl (fun b1=>?_));refine ze rfl (an (fun b2=>gG ?_));refine Zu ?_;refine ze rfl (zc (jc (by have:=hs.batch;omega)) rfl (fun x8=>?_));refine zq (zf 36 rfl rfl) rfl ?_;refine aaM ?_;refine Zj ?_;have hsc:=hs.cert;refine bH [3,5,13,14,15,16,17,18,19,20,21,22] [13,3] (fun us H'=>∃(k:Nat)(a:Option Addr)(c:Nat)(ls:List BS)(fp:List Nat),us=[.int .i64 (k:Int),.slice a (ls.map BS.val).length c]/\row (.slice a (ls.map BS.val).length c) 47 1 (ls.map BS.val)::ep fp ls::row (.slice x8.a v.batch.l.length x8.c) 5 1 (aE v.batch.l)::aF b1 (.cells ({v with batch:=⟨x8.a,x8.c,v.batch.l⟩}:af).cells 57 (0,0))::aF b2 (.cells af.zero.cells 57 (0,0))::H=H'/\k<=v.cert.ls.length/\ls.map BS.l=(v.cert.ls.map BS.l).take k) (fun us=>match us with| .int _ i::_=>v.cert.ls.length-i.toNat|_=>0) ⟨0,none,0,[],[],rfl,rfl,om,rfl⟩ (fun w hw=>((SB w hw:St w0 (row (.slice x8.a v.batch.l.length x8.c) 5 1 (aE v.batch.l)::aF b1 (.cells ({v with batch:=⟨x8.a,x8.c,v.batch.l⟩}:af).cells 57 (0,0))::aF b2 (.cells af.zero.cells 57 (0,0))::H) w).pO).AK 47) ?_;rintro τ0 _ _ ⟨k,a1,c1,ls,fp,rfl,rfl,hk0,hls⟩ _;have hll:ls.length=k:=aht;refine gG ?_;refine yC ?_ ?_<;>intro h14 p14
 ·have hk:k<v.cert.ls.length:=om;have hk':(k:Int)<v.cert.ls.length:=om;refine gG ?_;refine ZU ?_;have hmem:v.cert.ls[k]∈v.cert.ls:=W1 hk;have:dT w0 H (.slice v.cert.ls[k].a v.cert.ls[k].l.length v.cert.ls[k].c) v.cert.ls[k].l:=rev.get hmem;refine ze rfl (zc (jc aha) rfl (fun x19=>?_));refine ze rfl (dH (v:= .slice _ _ _) rfl (fun a20 c20=>?_));refine ze rfl (js (sv:= .slice _ _ _) (xv:= .slice _ _ _) rfl rfl agm so rfl (fun a21 c21=>gA ?_));refine bW _ zA (⟨k+1,a21,c21,ls++[⟨x19.a,x19.c,v.cert.ls[k].l⟩],bQ (.slice x19.a v.cert.ls[k].l.length x19.c)++fp,by simp only[Xi,Xt,X6];rfl,rfl,om,by rw[fR _ _ abf,Xi,hls];simp⟩) acr (fun w hw=>by
   have h1:St w0 (row (.slice a21 ((ls.map BS.val)++[Value.slice x19.a v.cert.ls[k].l.length x19.c]).length c21) 47 1 ((ls.map BS.val)++[Value.slice x19.a v.cert.ls[k].l.length x19.c])::row (BS.val ⟨x19.a,x19.c,v.cert.ls[k].l⟩) 5 1 (aE v.cert.ls[k].l)::ep fp ls::row (.slice x8.a v.batch.l.length x8.c) 5 1 (aE v.batch.l)::aF b1 (.cells ({v with batch:=⟨x8.a,x8.c,v.batch.l⟩}:af).cells 57 (0,0))::aF b2 (.cells af.zero.cells 57 (0,0))::H) w:=SB w hw;rw[show(ls++[(⟨x19.a,x19.c,v.cert.ls[k].l⟩:BS)]).map BS.val=(ls.map BS.val)++[Value.slice x19.a v.cert.ls[k].l.length x19.c]from by simp only[Xi,Xt,X6]];exact ng h1)
 have et:(v.cert.ls.map BS.l).take k=v.cert.ls.map BS.l:=W7 so;rw[et]at hls;rw[show(ls.map BS.val).length=ls.length from by simp];refine gG ?_;refine Za ?_;refine zq (zf 37 rfl rfl) rfl ?_;refine aaM ?_;refine aag ?_;refine sI (fun w hw=>Hd (v:=v) hw rfl) (fun fp2=>?_);exact zX (({v with batch:=⟨x8.a,x8.c,v.batch.l⟩,cert:=⟨a1,c1,ls⟩}:af),fp2) [_] results135 ⟨⟨_,rfl,ak rfl⟩,trivial⟩ rfl (aP (by simp only[af.abs,hls]) SB)
end
section
variable {κ ν:Type} {es:List (iK κ ν)} {c:Nat}
theorem ni[DecidableEq κ]:∀(es:List (iK κ ν))(k:κ),List.Sublist (ji es k) es
 |[],_=>Y0 _
 |e::es,k=>by
   rw[ji]
   split
   · exact List.sublist_cons_self _ _
   · exact(ni es k).cons_cons e
theorem By[DecidableEq κ]:∀(es:List (iK κ ν))(e:iK κ ν),e∈es->(ji es e.k).length<es.length
 |[],_,h=>by cases h
 |x::es,e,h=>by
   rw[ji]
   split
   · simp
   · rename_i hne
     rcases Xg.1 h with rfl|h
     · exact absurd rfl hne
     · have:=By es e h;simp;omega
theorem Cn[DecidableEq κ]:∀(es:List (iK κ ν))(k:κ),(es.map (·.k)).Nodup->∀e∈ji es k,e.k≠k
 |[],_,_,e,h=>by cases h
 |x::es,k,hn,e,h=>by
   rw[ji]at h;simp only[Xt,YB]at hn
   split at h
   · rename_i hk
     rintro rfl;exact hn.1 (hk▸Xd.2 ⟨e,h,rfl⟩)
   · rename_i hk
     rcases Xg.1 h with rfl|h
     · exact fun h=>hk h.symm
     · exact Cn es k hn.2 e h
theorem Hg[DecidableEq κ](h:eQ es c)(k:κ):eQ (ji es k) c:=
 ⟨h.keys.sublist ((ni es k).map _),h.born.sublist ((ni es k).map _),fun e he=>h.lt e ((ni es k).subset he)⟩
theorem He[DecidableEq κ](h:eQ es c){e x:iK κ ν}(he:e∈es)(hx:x∈ji es e.k):x.b≠e.b:=fun hb=>by
 have hxe:=(ni es e.k).subset hx;have:x=e:=by
   have hn:=h.born;clear h hx
   induction es with
   |nil=>cases he
   |cons y es ih=>
     simp only[Xt,YB]at hn;rcases Xg.1 he with rfl|he
     · rcases Xg.1 hxe with rfl|hxe
       · rfl
       · exact absurd (Xd.2 ⟨x,hxe,hb⟩) hn.1
     · rcases Xg.1 hxe with hxe|hxe
       · exact absurd (Xd.2 ⟨e,he,by rw[←hb,hxe]⟩) hn.1
       · exact ih he hxe hn.2
 exact Cn es e.k h.keys x hx (this▸rfl)
theorem sW[DecidableEq κ](h:eQ es c)(k:κ)(v:ν)(hh:eZ es k=false):eQ (fZ es k v c) (gM es k c):=by
 rw[lO es k v c hh];simp only[gM,hh,cond_false];refine⟨?_,?_,?_⟩
 · rw[Xi]
   refine Y3.2 ⟨h.keys,sm,fun a ha b hb=>?_⟩;obtain rfl:b=k:=ad5;rintro rfl;obtain⟨e,he,hek⟩:=Xd.1 ha;have:(eu es a).isSome=true:=by
     simp only[eu,Option.isSome_map];rw[List.find?_isSome];exact⟨e,he,by simp[hek]⟩
   rw[eZ,this]at hh;cases hh
 · rw[Xi]
   refine Y3.2 ⟨h.born,sm,fun a ha b hb=>?_⟩;obtain rfl:b=c:=ad5;rintro rfl;obtain⟨e,he,hek⟩:=Xd.1 ha;have:=h.lt e he;omega
 · intro e he
   rcases Xc.1 he with he|he
   · have:=h.lt e he;omega
   · obtain rfl:e=⟨k,v,c⟩:=by simpa using he
     show c<c+1;omega
theorem JK[DecidableEq κ]{k:κ}{v:ν}(h:eu es k=some v):∃e∈es,e.k=k/\e.v=v:=by
 simp only[eu,Yf]at h;obtain⟨e,h1,h2⟩:=h;have h3:=List.find?_some h1;exact⟨e,List.mem_of_find?_eq_some h1,(of_decide_eq_true h3).symm,h2⟩
def oU(k:bl)(s:Int):bl:=bif decide (k.slot<s)then{k with slot:=s,accepted:=none}else k
def oQ(k:bl)(es:List (iK bG af))(s:Int):List (iK bG af):=bif decide (k.slot<s)then[]else es
theorem JS{w0:World}{H:List SA}{p r:Nat}{k:bl}{es:List (iK bG af)}{s:Int}(hw:k.wrote=some r)(hg:eQ es c):CT prog w0 (aF p (.cells k.cells 131 (0,0))::aF r (cF je lx es c)::H) 134 [.pointer (some ⟨p,0,none⟩),.int .i64 s] (α:=Unit) (fun _=> .tuple #[]) (fun _=>aF p (.cells (oU k s).cells 131 (0,0))::aF r (cF je lx (oQ k es s) c)::H):=by
 obtain⟨now,en,sl,wr,ac⟩:=k;obtain rfl:wr=some r:=hw;refine al func134 rfl ntmps134 rfl (gG ?_);refine yC ?_ ?_<;>intro h10 p10<;>refine gG ?_
 ·refine ze rfl (Bb rfl underlying126 (fun it15=>gG ?_));refine qa (m0:=es.length) [4,16,17,18,19,20,21,22,23,24] [] (fun us H' m=>∃(es1:List (iK bG af))(seen:Array Nat),us=[]/\aF it15 (.mapIter (some r) c seen c)::aF p (.cells (bl.mk now en sl (some r) ac).cells 131 (0,0))::aF r (cF je lx es1 c)::H=H'/\m=es1.length/\eQ es1 c/\(∀e∈es1,seen.contains e.b=false)) ⟨es,#[],rfl,rfl,rfl,hg,fun _ _=>by simp⟩ SB ?_;rintro τ0 _ _ m ⟨es1,seen,rfl,rfl,rfl,hg1,hseen⟩ _;have hlt1:=hg1.lt;refine gG ?_;refine ze rfl (E8 rfl hlt1 hlt1 (fun hz16=>?_) (fun en16 hen16=>?_))
  ·obtain rfl:es1=[]:=by
    cases es1 with
    |nil=>rfl
    |cons e es1=>have:=hseen e sm;simp[fE,this]at hz16;exact absurd this (by simp[hz16])
   refine gG ?_;refine Zi ?_;refine Zv ?_;refine aax ?_;refine abz ?_;have e1:oU ⟨now,en,sl,some r,ac⟩ s=⟨now,en,s,some r,none⟩:=by simp[oU,p10]
   have e2:oQ ⟨now,en,sl,some r,ac⟩ es s=[]:=by simp[oQ,p10]
   exact afi
  have hmem:en16∈es1:=(Yg.1 hen16).1;refine gG ?_;refine Zc ?_;refine zq (Be en16 rfl hmem hg1.born) rfl ?_;refine gG ?_;refine ze rfl (an (fun b4=>?_));refine aag ?_;refine dw [aF b4 (.cells en16.k.cells 128 (0,0)),aF p (.cells (bl.mk now en sl (some r) ac).cells 131 (0,0))] [(0,true),(1,true),(2,true),(3,true),(4,true),(5,false)] (fun hns0=>?_);refine gA ?_;refine gS rfl (tq (key:=en16.k) rfl rfl underlying126 (⟨SB,(gA ?_)⟩));refine qc _ zA (⟨ji es1 en16.k,seen.push en16.b,rfl,rfl,rfl,Hg hg1 _,fun x hx=>by have h1:=hseen x ((ni es1 _).subset hx);have h2:=He hg1 hmem hx;simp only[Array.contains_push,h1,Bool.false_or];simpa using h2⟩) (By es1 en16 hmem) (SB)
 have n10:¬sl<s:=om;have e1:oU ⟨now,en,sl,some r,ac⟩ s=⟨now,en,sl,some r,ac⟩:=by simp[oU,n10]
 have e2:oQ ⟨now,en,sl,some r,ac⟩ es s=es:=by simp[oQ,n10]
 exact afi
end
section
def iD:Option (Nat×af)->Option Addr
 |none=>none
 |some q=>some ⟨q.1,0,none⟩
def sG:Option (Nat×af)->SA
 |none=>pu True
 |some q=>aF q.1 (.cells q.2.cells 57 (0,0))
structure cb where
 k:bl
 r:Nat
 es:List (iK bG af)
 c:Nat
 acc:Option (Nat×af)
 fp:List Nat
 vs:List af
abbrev cb.H(y:cb)(p:Nat)(H:List SA):List SA:=aF p (.cells y.k.cells 131 (0,0))::aF y.r (cF je lx y.es y.c)::sG y.acc::eG y.fp y.vs::H
structure cb.Ok(y:cb):Prop where
 wrote:y.k.wrote=some y.r
 acc:y.k.accepted=iD y.acc
 ic:eQ y.es y.c
 there:∀e∈y.es,e.v∈y.vs
 last:∀q,y.acc=some q->q.2∈y.vs
 small:∀v∈y.vs,ff v.abs
structure fG where
 now:bG
 cO:Bool
 slot:Int
 wrote:List (bG×dm)
 acc:Option dm
def cb.abs(y:cb):fG:=⟨y.k.now,y.k.cO,y.k.slot,y.es.map fun e=>(e.k,e.v.abs),y.acc.map fun q=>q.2.abs⟩
def fG.get(b:fG)(a:bG):Option dm:=(b.wrote.find? fun e=>decide (a=e.1)).map (·.2)
variable {w0:World} {H:List SA}
theorem cb.get(y:cb)(a:bG):y.abs.get a=(eu y.es a).map af.abs:=by
 simp only[fG.get,cb.abs,eu,List.find?_map,Option.map_map];rfl
def A8(b:fG)(a:bG):fG:=bif !b.cO||iG a b.now then{b with now:=a,cO:=true}else b
def iv(b:fG)(s:Int):fG:=if b.slot<s then{b with slot:=s,wrote:=[],acc:=none}else b
def kZ(b:fG)(a:bG)(v:dm):fG:=if (b.get a).isSome then b else{b with wrote:=b.wrote++[(a,v)]}
def ik(b:fG)(a:bG)(v:dm):fG:=match b.acc with|none=> {b with acc:=some v}|some o=>if iG a ⟨o.view,o.dZ⟩then{b with acc:=some v}else b
def eX(b:fG)(v:dm):fG×Int:=
 if (cU v).2≠0 then(b,15)else if v.kind=1 then(A8 b ⟨v.view,v.dZ⟩,0)else if v.slot<b.slot then(b,7)
 else if v.kind=2 then(kZ (iv b v.slot) ⟨v.view,v.dZ⟩ v,0)else(ik (iv b v.slot) ⟨v.view,v.dZ⟩ v,0)
theorem EL(now:bG)(en:Bool)(sl:Int)(r:Nat)(acc:Option (Nat×af))(es:List (iK bG af))(s:Int)(hle:¬s<sl):∃(acc1:Option (Nat×af))(es1:List (iK bG af)),
   oU ⟨now,en,sl,some r,iD acc⟩ s=⟨now,en,s,some r,iD acc1⟩/\oQ ⟨now,en,sl,some r,iD acc⟩ es s=es1/\(∀c,eQ es c->eQ es1 c)/\(∀e∈es1,e∈es)/\(∀q,acc1=some q->acc=some q)/\
   (∀(w0 w:World)(H:List SA),St w0 (sG acc::H) w->St w0 (sG acc1::H) w)/\(∀(c:Nat)(fp fp1:List Nat)(vs vs1:List af),cb.abs ⟨⟨now,en,s,some r,iD acc1⟩,r,es1,c,acc1,fp1,vs1⟩=iv (cb.abs ⟨⟨now,en,sl,some r,iD acc⟩,r,es,c,acc,fp,vs⟩) s):=by
 by_cases h:sl<s
 · refine⟨none,[],by simp[oU,h,iD],by simp[oQ,h],fun _ hg=>⟨sm,sm,sm⟩,fun _ h=>by simp at h,fun _ h=>by simp at h,fun w0 w H hw=>hw.tail.aC trivial,fun _ _ _ _ _=>?_⟩
   show _=if sl<s then _ else _
   rw[if_pos h];rfl
 · have e:sl=s:=om
   subst e;refine⟨acc,es,by simp[oU],by simp[oQ],fun _ hg=>hg,fun _ h=>h,fun _ h=>h,fun _ _ _ h=>h,fun _ _ _ _ _=>?_⟩;show _=if sl<sl then _ else _
   rw[if_neg h];rfl
theorem St.Mc{w:World}(h:St w0 H w):St w0 (sG none::H) w:=h.aC trivial
theorem BJ(es:List (iK bG af))(a:bG)(c:Nat)(k:bl)(r:Nat)(acc:Option (Nat×af))(fp:List Nat)(vs:List af):((cb.abs ⟨k,r,es,c,acc,fp,vs⟩).get a).isSome=eZ es a:=by
 rw[cb.get];simp[eZ]
def bl.made(r:Nat):bl:= {bl.zero with wrote:=some r}
def cb.made(r:Nat):cb:=⟨bl.made r,r,[],0,none,[],[]⟩
theorem cb.Ff(r:Nat):(cb.made r).Ok:=⟨rfl,rfl,⟨by simp[cb.made],by simp[cb.made],by simp[cb.made]⟩,by simp[cb.made],by simp[cb.made],by simp[cb.made]⟩
def fG.zero:fG:=⟨⟨0,0⟩,false,0,[],none⟩
theorem cb.B2(r:Nat):(cb.made r).abs=fG.zero:=rfl
theorem OW:CT prog w0 (H) 21 [] (α:=Nat×Nat) (fun y=> .pointer (some ⟨y.1,0,none⟩)) (fun y=>(cb.made y.2).H y.1 H):=by
 refine air ?_;refine ze rfl (mj je lx (fun r1=>?_));refine ah8 ?_;refine ze rfl (aZ rfl (fun b3=>gG ?_));exact zX (b3,r1) [_] results21 ⟨rfl,trivial⟩ rfl (fun w hw=>by
  have h1:St w0 (aF b3 (.cells (bl.made r1).cells 131 (0,0))::aF r1 (cF je lx [] 0)::H) w:=hw;exact cJ.st (H':=aF b3 (.cells (bl.made r1).cells 131 (0,0))::aF r1 (cF je lx [] 0)::sG none::eG [] []::H) inferInstance w (St.Mc (St.iw h1)))
theorem Fy{vs:List af}[h:jF w0 H vs]:jF w0 H (af.zero::vs):=
 ⟨fun v hv=>by
   rcases Xg.1 hv with rfl|hv
   · exact⟨fun w hw=>⟨none,0,0,rfl,rfl,om,dc,fun h=>absurd h (by simp[af.zero])⟩⟩
   · exact h.b v hv,fun v hv=>by
   rcases Xg.1 hv with rfl|hv
   · exact⟨fun w hw=>⟨none,0,0,rfl,rfl,om,dc,fun h=>absurd h (by simp[af.zero])⟩⟩
   · exact h.c v hv,fun v hv=>by
   rcases Xg.1 hv with rfl|hv
   · exact⟨fun x hx=>by simp[af.zero]at hx⟩
   · exact h.e v hv⟩
theorem BA{es:List (iK bG af)}{vs:List af}(h:∀e∈es,e.v∈vs)(a:bG):(eu es a).getD af.zero∈af.zero::vs:=by
 cases hg:eu es a with
 |none=>simp
 |some v=>obtain⟨e,he,_,rfl⟩:=JK hg;exact Xa _ (h e he)
theorem wA:ff af.zero.abs:=⟨by simp[af.zero,af.abs],by simp[af.zero,af.abs],by simp[af.zero,af.abs]⟩
theorem St.Mz{w:World}(h:St w0 H w):St w0 (eG [] [af.zero]::H) w:=
 h.fresh rfl rfl rfl (W8 _) (fun _ _=>rfl) (fun v hv=>by
   obtain rfl:v=af.zero:=by simpa using hv
   exact⟨⟨none,0,0,rfl,rfl,om,dc,fun h=>absurd h (by simp[af.zero])⟩,⟨none,0,0,rfl,rfl,om,dc,fun h=>absurd h (by simp[af.zero])⟩,fun x hx=>by simp[af.zero]at hx⟩) (by simp[eG]) (by simp[eG])
theorem wO{p:Nat}{y:cb}(ho:y.Ok):CT prog w0 (y.H p H) 178 [.pointer (some ⟨p,0,none⟩)] (α:=af×List Nat) (fun z=> .tuple #[.agg z.1.cells,.bool y.acc.isSome]) (fun z=>pu (z.1.abs=((y.acc.map Prod.snd).getD af.zero).abs)::eG z.2 [z.1]::y.H p H):=by
 obtain⟨⟨now,en,sl,wr,ac⟩,r,es,c,acc,fp,vs⟩:=y;obtain rfl:ac=iD acc:=ho.acc;refine al func178 rfl ntmps178 rfl (gG ?_);rcases acc with _|⟨q,u⟩
 ·simp only[iD,sG,cb.H];refine ze rfl (an (fun b2=>gG ?_));refine Zt ?_;refine yS 6 ?_ ?_<;>intro h6 p6
  ·
   cases h6
  refine gG ?_;refine ZV ?_;refine yC ?_ ?_<;>intro h12 p12
  ·refine gG ?_;refine aaC ?_;refine aag ?_;exact zX (af.zero,[]) [_,_] results178 ⟨⟨_,rfl,ak rfl⟩,rfl,trivial⟩ rfl (fun w hw=>(St.Mz (SB w hw)).aC rfl)
  cases h12
 simp only[iD,sG,cb.H];refine ze rfl (an (fun b2=>gG ?_));refine Zt ?_;refine yS 6 ?_ ?_<;>intro h6 p6
 ·
  cases h6
 refine gG ?_;refine ZV ?_;refine yC ?_ ?_<;>intro h12 p12
 ·
  cases h12
 refine gG ?_;have hmem:=ho.last _ rfl;have hsm:=ho.small _ hmem;have rvs:jF w0 (eG fp vs::H) vs:=inferInstance;have rb:=rvs.b _ hmem;have rc:=rvs.c _ hmem;have re:=rvs.e _ hmem;refine ze rfl (zc (rW hsm) rfl (fun x20=>?_));refine aag ?_;exact zX x20 [_,_] results178 ⟨⟨_,rfl,ak rfl⟩,rfl,trivial⟩ rfl (cJ.st (H':=pu (x20.1.abs=u.abs)::eG x20.2 [x20.1]::aF p (.cells (bl.mk now en sl wr (some ⟨q,0,none⟩)).cells 131 (0,0))::aF r (cF je lx es c)::aF q (.cells u.cells 57 (0,0))::eG fp vs::H) inferInstance)
end
section
theorem Gk:iD none=none:=rfl
variable {b:fG} {v:dm}
theorem Ga(q:Nat)(u:af):iD (some (q,u))=some ⟨q,0,none⟩:=rfl
theorem GN:sG none=pu True:=rfl
theorem Gw(q:Nat)(u:af):sG (some (q,u))=aF q (.cells u.cells 57 (0,0)):=rfl
theorem zy(h:(cU v).2≠0):eX b v=(b,15):=by rw[eX,if_pos h]
theorem y9(h:(cU v).2=0)(hk:v.kind=1):eX b v=(A8 b ⟨v.view,v.dZ⟩,0):=by rw[eX,if_neg (fun hn=>hn h),if_pos hk]
theorem yI(h:(cU v).2=0)(hk:v.kind≠1)(hs:v.slot<b.slot):eX b v=(b,7):=by rw[eX,if_neg (fun hn=>hn h),if_neg hk,if_pos hs]
theorem pJ(h:(cU v).2=0)(hk:v.kind=2)(hs:¬v.slot<b.slot):eX b v=(kZ (iv b v.slot) ⟨v.view,v.dZ⟩ v,0):=by rw[eX,if_neg (fun hn=>hn h),if_neg om,if_neg hs,if_pos hk]
theorem pU(h:(cU v).2=0)(hk:v.kind≠1)(hk2:v.kind≠2)(hs:¬v.slot<b.slot):eX b v=(ik (iv b v.slot) ⟨v.view,v.dZ⟩ v,0):=by rw[eX,if_neg (fun hn=>hn h),if_neg hk,if_neg hs,if_neg hk2]
theorem Ce(k:bl)(a:bG):(j7 k a).wrote=k.wrote:=aiu
theorem wg(k:bl)(a:bG):(j7 k a).accepted=k.accepted:=aiu
theorem F4(k:bl)(a:bG)(r:Nat)(es:List (iK bG af))(c:Nat)(acc:Option (Nat×af))(fp:List Nat)(vs:List af):cb.abs ⟨j7 k a,r,es,c,acc,fp,vs⟩=A8 (cb.abs ⟨k,r,es,c,acc,fp,vs⟩) a:=by
 unfold j7;show _=bif !k.cO||iG a k.now then _ else _;cases(!k.cO||iG a k.now)<;>rfl
theorem Kq{w0:World}{H:List SA}{p:Nat}{y:cb}{v:af}[rbv:dT w0 H (.slice v.batch.a v.batch.l.length v.batch.c) v.batch.l][Cd:gy w0 H (.slice v.cert.a v.cert.ls.length v.cert.c) 1 (v.cert.ls.map BS.val)][rev:ju w0 H v.cert.ls](ho:y.Ok)(hs:ff v.abs):CT prog w0 (y.H p H) 74 [.pointer (some ⟨p,0,none⟩),.agg v.cells] (α:=cb) (fun z=> .int .i64 (eX y.abs v.abs).2) (fun z=>pu (z.Ok/\z.abs=(eX y.abs v.abs).1)::z.H p H):=by
 obtain⟨⟨now,en,sl,wr,ac⟩,r,es,c,acc,fp,vs⟩:=y;obtain rfl:wr=some r:=ho.wrote;obtain rfl:ac=iD acc:=ho.acc;refine ais ?_;refine ze rfl (aZ rfl (fun b3=>gG ?_));refine Zt ?_;refine yC ?_ ?_<;>intro h12 p12<;>try simp only at p12
 ·
  cases h12
 refine gG ?_;refine ze rfl (zc (Ju hs) rfl (fun x15=>gG ?_));refine yC ?_ ?_<;>intro h19 p19<;>try simp only at p19
 ·refine gG ?_;have htk:=zy (b:=(cb.mk (bl.mk now en sl (some r) (iD acc)) r es c acc fp vs).abs) (v:=v.abs) p19;refine zX (cb.mk (bl.mk now en sl (some r) (iD acc)) r es c acc fp vs) [.int .i64 15] results74 ⟨rfl,trivial⟩ afm (fun w hw=>St.aC ?_ ⟨?_,?_⟩)
  · exact cJ.st (H':=cb.H (cb.mk (bl.mk now en sl (some r) (iD acc)) r es c acc fp vs) p H) inferInstance w hw
  · exact ho
  · rw[htk];skip
 have hput:(cU v.abs).2=0:=by simpa using h19
 refine gG ?_;refine zq (aA [(0,(.int .i64 _)),(1,(.int .i64 _))] rfl kr) rfl ?_;refine ze rfl (an (fun b7=>?_));refine aag ?_;refine yC ?_ ?_<;>intro h27 p27<;>(try simp only at p27)<;>refine gG ?_
 ·refine cu (aF p (.cells (bl.mk now en sl (some r) (iD acc)).cells 131 (0,0))::aF r (cF je lx es c)::sG acc::eG fp vs::H) ?_;refine ze rfl (zc (KE (k:=bl.mk now en sl (some r) (iD acc))) rfl (fun x30=>gG ?_));have htk:=y9 (b:=(cb.mk (bl.mk now en sl (some r) (iD acc)) r es c acc fp vs).abs) (v:=v.abs) hput p27;refine zX (cb.mk (j7 (bl.mk now en sl (some r) (iD acc)) ⟨v.view,v.dZ⟩) r es c acc fp vs) [.int .i64 0] results74 ⟨rfl,trivial⟩ afm (fun w hw=>St.aC ?_ ⟨?_,?_⟩)
  · exact cJ.st (H':=cb.H (cb.mk (j7 (bl.mk now en sl (some r) (iD acc)) ⟨v.view,v.dZ⟩) r es c acc fp vs) p H) inferInstance w hw
  · exact⟨(Ce _ _).trans rfl,(wg _ _).trans rfl,ho.ic,ho.there,ho.last,ho.small⟩
  · rw[htk];exact F4 _ _ _ _ _ _ _ _
 refine dv [(0,true),(1,true),(2,true),(3,true),(4,true),(5,true),(6,true)] (fun hns0=>?_);refine ait ?_;refine afL ?_;refine zd hns0 rfl (zm (.pointer _) rfl) rfl ?_;refine zd hns0 rfl (aN rfl) rfl ?_;refine ait ?_;refine afL ?_;refine zd hns0 rfl (mL rfl rfl) rfl ?_;refine gz ?_;refine gG ?_;refine yC ?_ ?_<;>intro h37 p37<;>(try simp only at p37)<;>refine gG ?_
 ·have htk:=yI (b:=(cb.mk (bl.mk now en sl (some r) (iD acc)) r es c acc fp vs).abs) (v:=v.abs) hput p27 p37;refine zX (cb.mk (bl.mk now en sl (some r) (iD acc)) r es c acc fp vs) [.int .i64 7] results74 ⟨rfl,trivial⟩ afm (fun w hw=>St.aC ?_ ⟨?_,?_⟩)
  · exact cJ.st (H':=cb.H (cb.mk (bl.mk now en sl (some r) (iD acc)) r es c acc fp vs) p H) inferInstance w hw
  · exact ho
  · rw[htk];skip
 have n37:¬v.slot<sl:=om;refine cu (aF p (.cells (bl.mk now en sl (some r) (iD acc)).cells 131 (0,0))::aF r (cF je lx es c)::sG acc::eG fp vs::aF b3 (.cells v.cells 57 (0,0))::aF b7 (.cells (bG.mk v.view v.dZ).cells 128 (0,0))::H) ?_;refine ze rfl (zc (JS (k:=bl.mk now en sl (some r) (iD acc)) rfl ho.ic) rfl (fun x41=>?_));obtain⟨acc1,es1,hb1,hb2,hb3,hb4,hb5,hb6,hb7⟩:=EL now en sl r acc es v.slot n37;rw[hb1,hb2];refine ez (fun w hw=>hb6 w0 w _ (SB w hw:St w0 (sG acc::aF p (.cells (bl.mk now en v.slot (some r) (iD acc1)).cells 131 (0,0))::aF r (cF je lx es1 c)::eG fp vs::aF b3 (.cells v.cells 57 (0,0))::aF b7 (.cells (bG.mk v.view v.dZ).cells 128 (0,0))::H) w)) ?_;refine gG ?_;refine ze rfl (zc (rW hs) rfl (fun x43=>?_));refine aV (fun hu=>?_);have hk:x43.1.kind=v.kind:=congrArg dm.kind hu;refine aag ?_;refine yC ?_ ?_<;>intro h46 p46<;>(try simp only at p46)<;>refine gG ?_
 ·refine dv [(0,true),(1,true),(2,true),(3,true),(4,true),(5,true),(6,true),(7,true),(8,true),(9,false),(10,false),(11,true)] (fun hns1=>?_);refine ahN ?_;refine zd hns1 rfl (aN rfl) rfl ?_;refine zd hns1 rfl (zf 4 rfl rfl) rfl ?_;refine zd hns1 rfl (zl rfl) rfl ?_;refine aiH ?_;refine zd hns1 rfl (oi (key:=bG.mk v.view v.dZ) (af.zero) rfl rfl underlying126 sS) rfl ?_;refine zd hns1 rfl (zm (.tuple _) rfl) rfl ?_;refine zd hns1 rfl (eo rfl) rfl ?_;refine zd hns1 rfl (eo rfl) rfl ?_;refine cX rfl rfl (an (fun b8=>⟨SB,?_⟩));refine abd ?_;refine zd hns1 rfl (za (.bool _) rfl) rfl ?_;refine gz ?_;refine gG ?_;refine yC ?_ ?_<;>intro h57 p57<;>try simp only at p57
  ·refine dw [aF p (.cells (bl.mk now en v.slot (some r) (iD acc1)).cells 131 (0,0)),aF b7 (.cells (bG.mk v.view v.dZ).cells 128 (0,0)),aF b3 (.cells x43.1.cells 57 (0,0))] [(0,true),(1,true),(2,true),(3,true),(4,true),(5,true),(6,false)] (fun hns2=>?_);refine zd hns2 rfl (zm (.pointer _) rfl) rfl ?_;refine zd hns2 rfl (aN rfl) rfl ?_;refine zd hns2 rfl (zf 4 rfl rfl) rfl ?_;refine zd hns2 rfl (zl rfl) rfl ?_;refine aiI ?_;refine aiI ?_;refine gS rfl (kH (key:=bG.mk v.view v.dZ) (x43.1) rfl rfl rfl underlying126 (⟨SB,?_⟩));refine gz ?_;refine gG ?_;have htk:=pJ (b:=(cb.mk (bl.mk now en sl (some r) (iD acc)) r es c acc fp vs).abs) (v:=v.abs) hput (hk.symm.trans p46) n37;have hh:eZ es1 ⟨v.view,v.dZ⟩=false:=by simpa using h57
   refine zX (cb.mk (bl.mk now en v.slot (some r) (iD acc1)) r (fZ es1 ⟨v.view,v.dZ⟩ x43.1 c) (gM es1 ⟨v.view,v.dZ⟩ c) acc1 (x43.2++fp) ([x43.1]++vs)) [.int .i64 0] results74 ⟨rfl,trivial⟩ afm (fun w hw=>St.aC ?_ ⟨?_,?_⟩)
   · have h1:St w0 (eG x43.2 [x43.1]::eG fp vs::aF p (.cells (bl.mk now en v.slot (some r) (iD acc1)).cells 131 (0,0))::aF r (cF je lx (fZ es1 ⟨v.view,v.dZ⟩ x43.1 c) (gM es1 ⟨v.view,v.dZ⟩ c))::sG acc1::H) w:=SB w hw
     exact cJ.st (H':=cb.H (cb.mk (bl.mk now en v.slot (some r) (iD acc1)) r (fZ es1 ⟨v.view,v.dZ⟩ x43.1 c) (gM es1 ⟨v.view,v.dZ⟩ c) acc1 (x43.2++fp) ([x43.1]++vs)) p H) inferInstance w (St.j3 h1)
   · exact⟨rfl,rfl,sW (hb3 _ ho.ic) _ _ hh,fun e he=>by
      rw[show(cb.es (cb.mk (bl.mk now en v.slot (some r) (iD acc1)) r (fZ es1 ⟨v.view,v.dZ⟩ x43.1 c) (gM es1 ⟨v.view,v.dZ⟩ c) acc1 (x43.2++fp) ([x43.1]++vs)))=fZ es1 ⟨v.view,v.dZ⟩ x43.1 c from rfl,lO _ _ _ _ hh]at he;rcases Xc.1 he with he|he
      · exact Xo _ (ho.there e (hb4 e he))
      · obtain rfl:e=⟨⟨v.view,v.dZ⟩,x43.1,c⟩:=by simpa using he
        exact Xx _ sm,fun q hq=>Xo _ (ho.last q (hb5 q hq)),fun x hx=>by
      rcases Xg.1 hx with rfl|hx
      · rw[hu];exact hs
      · exact ho.small x hx⟩
   · rw[htk];refine Eq.trans ?_ (congrArg (fun b=>kZ b ⟨v.view,v.dZ⟩ v.abs) (hb7 c fp fp vs vs))
     show cb.abs _=if (fG.get _ _).isSome then _ else _
     rw[BJ,hh];simp[cb.abs,lO _ _ _ _ hh,hu]
  refine gG ?_;have htk:=pJ (b:=(cb.mk (bl.mk now en sl (some r) (iD acc)) r es c acc fp vs).abs) (v:=v.abs) hput (hk.symm.trans p46) n37;have hh:eZ es1 ⟨v.view,v.dZ⟩=true:=by simpa using h57
  refine zX (cb.mk (bl.mk now en v.slot (some r) (iD acc1)) r es1 c acc1 fp vs) [.int .i64 0] results74 ⟨rfl,trivial⟩ afm (fun w hw=>St.aC ?_ ⟨?_,?_⟩)
  · exact cJ.st (H':=cb.H (cb.mk (bl.mk now en v.slot (some r) (iD acc1)) r es1 c acc1 fp vs) p H) inferInstance w hw
  · exact⟨rfl,rfl,hb3 _ ho.ic,fun e he=>ho.there e (hb4 e he),fun q hq=>ho.last q (hb5 q hq),ho.small⟩
  · rw[htk];refine Eq.trans ?_ (congrArg (fun b=>kZ b ⟨v.view,v.dZ⟩ v.abs) (hb7 c fp fp vs vs))
    show cb.abs _=if (fG.get _ _).isSome then _ else _
    rw[BJ,hh];rfl
 refine dv [(0,true),(1,true),(2,true),(3,true),(4,true),(5,true),(6,true),(7,true),(8,true),(9,true),(10,true),(11,true),(12,true),(13,false),(14,true)] (fun hns3=>?_);rcases acc1 with _|⟨q,o⟩<;>simp only[Gk,Ga,GN,Gw]
 ·skip
  refine ahO ?_;refine ahb ?_;refine ah3 ?_;refine yD 70 ?_ ?_<;>intro h70 p70<;>try simp only at p70
  ·refine abO ?_;refine abO ?_;refine abO ?_;refine abO ?_;refine abO ?_;refine abO ?_;refine abO ?_;refine abO ?_;refine abO ?_;refine abO ?_;refine BB rfl rfl rfl h70 rfl ?_;refine zd hns3 rfl (zT (.bool _) rfl h70 rfl) rfl ?_;refine gz ?_;refine gG ?_;refine Zc ?_;refine abz ?_;have htk:=pU (b:=(cb.mk (bl.mk now en sl (some r) (iD acc)) r es c acc fp vs).abs) (v:=v.abs) hput p27 (fun h=>p46 (hk.trans h)) n37;refine zX (cb.mk (bl.mk now en v.slot (some r) (some ⟨b3,0,none⟩)) r es1 c (some (b3,x43.1)) (x43.2++fp) ([x43.1]++vs)) [.int .i64 0] results74 ⟨rfl,trivial⟩ afm (fun w hw=>St.aC ?_ ⟨?_,?_⟩)
   · have h1:St w0 (eG x43.2 [x43.1]::eG fp vs::aF p (.cells (bl.mk now en v.slot (some r) (some ⟨b3,0,none⟩)).cells 131 (0,0))::aF r (cF je lx es1 c)::aF b3 (.cells x43.1.cells 57 (0,0))::H) w:=SB w hw
     exact acv
   · exact⟨rfl,rfl,hb3 _ ho.ic,fun e he=>Xo _ (ho.there e (hb4 e he)),fun q hq=>by obtain rfl:(b3,x43.1)=q:=(by simpa using hq);simp,fun x hx=>by
      rcases Xg.1 hx with rfl|hx
      · rw[hu];exact hs
      · exact ho.small x hx⟩
   · rw[htk];refine Eq.trans ?_ (congrArg (fun b=>ik b ⟨v.view,v.dZ⟩ v.abs) (hb7 c fp fp vs vs))
     simp only[cb.abs,ik,Yt,XK,hu]
  cases h70
 skip
 refine ahO ?_;refine ahb ?_;refine ah3 ?_;refine yD 70 ?_ ?_<;>intro h70 p70<;>try simp only at p70
 ·
  cases h70
 refine bB hns3 rfl rfl rfl h70 (zn rfl rfl) rfl ?_;refine agA ?_;refine ahQ ?_;refine bB hns3 rfl rfl rfl h70 (zf 1 rfl rfl) rfl ?_;refine ahR ?_;refine agA ?_;refine ahQ ?_;refine bB hns3 rfl rfl rfl h70 (zf 2 rfl rfl) rfl ?_;refine ahR ?_;refine bB hns3 rfl rfl rfl h70 (aA [(0,(.int .i64 _)),(1,(.int .i64 _))] rfl kr) rfl ?_;refine lF rfl rfl rfl h70 rfl (zc (FQ) rfl (fun x81=>⟨SB,?_⟩));refine zd hns3 rfl (zF (.bool _) rfl h70 rfl) rfl ?_;refine gz ?_;refine gG ?_;refine yC ?_ ?_<;>intro h82 p82<;>(try simp only at p82)<;>refine gG ?_
 ·refine abz ?_;have htk:=pU (b:=(cb.mk (bl.mk now en sl (some r) (iD acc)) r es c acc fp vs).abs) (v:=v.abs) hput p27 (fun h=>p46 (hk.trans h)) n37;refine zX (cb.mk (bl.mk now en v.slot (some r) (some ⟨b3,0,none⟩)) r es1 c (some (b3,x43.1)) (x43.2++fp) ([x43.1]++vs)) [.int .i64 0] results74 ⟨rfl,trivial⟩ afm (fun w hw=>St.aC ?_ ⟨?_,?_⟩)
  · have h1:St w0 (eG x43.2 [x43.1]::eG fp vs::aF p (.cells (bl.mk now en v.slot (some r) (some ⟨b3,0,none⟩)).cells 131 (0,0))::aF r (cF je lx es1 c)::aF b3 (.cells x43.1.cells 57 (0,0))::H) w:=SB w hw
    exact acv
  · exact⟨rfl,rfl,hb3 _ ho.ic,fun e he=>Xo _ (ho.there e (hb4 e he)),fun q hq=>by obtain rfl:(b3,x43.1)=q:=(by simpa using hq);simp,fun x hx=>by
     rcases Xg.1 hx with rfl|hx
     · rw[hu];exact hs
     · exact ho.small x hx⟩
  · rw[htk];refine Eq.trans ?_ (congrArg (fun b=>ik b ⟨v.view,v.dZ⟩ v.abs) (hb7 c fp fp vs vs))
    show cb.abs _=if iG _ ⟨o.view,o.dZ⟩then _ else _
    rw[if_pos h82];simp only[cb.abs,XK,hu]
 have htk:=pU (b:=(cb.mk (bl.mk now en sl (some r) (iD acc)) r es c acc fp vs).abs) (v:=v.abs) hput p27 (fun h=>p46 (hk.trans h)) n37;refine zX (cb.mk (bl.mk now en v.slot (some r) (some ⟨q,0,none⟩)) r es1 c (some (q,o)) fp vs) [.int .i64 0] results74 ⟨rfl,trivial⟩ afm (fun w hw=>St.aC ?_ ⟨?_,?_⟩)
 · exact cJ.st (H':=aF p (.cells (bl.mk now en v.slot (some r) (some ⟨q,0,none⟩)).cells 131 (0,0))::aF r (cF je lx es1 c)::aF q (.cells o.cells 57 (0,0))::eG fp vs::H) inferInstance w hw
 · exact⟨rfl,rfl,hb3 _ ho.ic,fun e he=>ho.there e (hb4 e he),fun x hx=>ho.last x (hb5 x hx),ho.small⟩
 · rw[htk];refine Eq.trans ?_ (congrArg (fun b=>ik b ⟨v.view,v.dZ⟩ v.abs) (hb7 c fp fp vs vs))
   simp only[cb.abs,ik,XK,hu,af.abs];rw[if_neg (by simp[h82])]
end
end Go.Proofs.YtmbfimckmfnnjaaGreatDoor
