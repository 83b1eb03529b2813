/- Steps of the proof of a law. -/
import Derived.Test.YtmbfimckmfnnjaaGreatDoorQ15
import Derived.Test.YtmbfimckmfnnjaaGreatDoorQ21
set_option maxRecDepth 100000
set_option maxHeartbeats 1000000
set_option linter.unusedSimpArgs false
set_option linter.unusedVariables false
namespace Go.Proofs.YtmbfimckmfnnjaaGreatDoor
open Go.RowKit Go.Sx Go.Proofs.Tryz
section
theorem mH{P:Program}{w0:World}{σ:Env}{H:List SA}{d:Option Nat}{ty:TypeId}{pos:String}{aft:Array Edge}{g:Option (Nat×Bool)}{x hi:Operand}{t e n m b o:Nat}{i:TypeInfo}{k:IntKind}(hx:ev σ x= .pointer (some ⟨b,o,none⟩))(hh:ev σ hi= .int k (m:Int))(hu:P.underlying t=some (.array n e))(hi':P.info? e=some i)(hn:Nat.blt 0 n=true)(hm:m<=n):Qt P w0 H σ ⟨d,.slice t x none (some hi) none,ty,pos,aft,g⟩ (.slice (some ⟨b,o,none⟩) m n):=fun w _=>by
 have h0:n≠0:=by simp only[XO]at hn;omega
 have h1:¬((m:Int)<0):=om;have h2:¬((n:Int)<(m:Int)):=om;simp only[execOp,hx,hh,Yt,XK,Instr.sliceAt,Sem.run_bind,run_underlying hu,Result.andThen_ok,Instr.sureAddr,Sem.run_pure,Instr.sliceBounds,Instr.sliceBound,asIntOf,cC hi',h0,if_false,Nat.zero_mul,Nat.sub_zero];simp[Addr.add,asIntOf,h1,h2,hm]
theorem dT.AQ{w0:World}{H:List SA}{b n m:Nat}{T:TypeId}{fz:Nat×Nat}(x:Vector UInt8 n)(hm:Mem w0 H b (.cells (aX x).toArray T fz))(hmn:m<=n)(hn:n<=1000):dT w0 H (.slice (some ⟨b,0,none⟩) (x.toList.take m).length n) (x.toList.take m):=
 ⟨fun w hw=>⟨_,_,_,rfl,by simp[aE],so,by unfold maxLen;omega,fun _=>⟨b,0,rfl,fun j u hj=>by
   rw[di (hm.get w hw)];have hj2:(aE (x.toList.take m))[j]? =some u:=hj;rw[XQ];unfold aE at hj2;rw[List.map_take,XR]at hj2
   split at hj2
   · simpa[aX,aE]using hj2
   · cases hj2⟩⟩⟩
def ug(v:Value)(e:TypeId)(xs:List Value)(w:World):Prop:=
 ∃a c,v= .slice a xs.length c/\xs.length<=c/\c<=maxLen/\(a=none->c=0)/\(c≠0->∃g o cur,a=some ⟨g,o,none⟩/\w.heap[g]? =some (.cells cur e (0,0))/\o+c<=cur.size/\(cur.toList.drop o).take xs.length=xs)
def lI(v:Value)(e:TypeId)(xs:List Value):SA:=⟨bQ v,ug v e xs,fun w w' h hp=>by
 obtain⟨a,c,hv,hn,hc,ha,hx⟩:=hp;refine⟨a,c,hv,hn,hc,ha,fun h0=>?_⟩;obtain⟨g,o,cur,hg,hw,h1,h2⟩:=hx h0;refine⟨g,o,cur,hg,?_,h1,h2⟩;rw[h g (by subst hv;subst hg;simp[bQ,h0])];exact hw⟩
theorem ug.cells{v:Value}{e:TypeId}{xs:List Value}{w:World}(h:ug v e xs w):cY w v 1 xs:=by
 obtain⟨a,c,hv,hn,hc,ha,hx⟩:=h;refine⟨a,xs.length,c,hv,om,hn,hc,fun h0=>?_⟩;obtain⟨g,o,cur,hg,hw,h1,h2⟩:=hx om;refine⟨g,o,hg,fun j u hj=>?_⟩;rw[di hw];rw[←h2,XR]at hj
 split at hj
 · rw[Yw]at hj;simpa using hj
 · cases hj
instance gy.Pq{w0:World}{H:List SA}{v:Value}{e:TypeId}{xs:List Value}:gy w0 (lI v e xs::H) v 1 xs:=⟨fun w hw=>(hw.holds (lI v e xs) sm:ug v e xs w).cells⟩
theorem St.Pb{w0 w:World}{H:List SA}{v:Value}{e:TypeId}{xs:List Value}(h:St w0 (row v e 1 xs::H) w):St w0 (lI v e xs::H) w:=
 h.Hq rfl fun hp=>by
   obtain⟨a,n,c,hv,hl,hn,hc,ha,hx⟩:=(hp:qS v e 1 xs w);have hnl:n=xs.length:=om;subst hnl;refine⟨a,c,hv,hn,hc,ha,fun h0=>?_⟩;obtain⟨g,cur,hg,hw,h1,h2⟩:=hx h0;exact⟨g,0,cur,hg,hw,om,by rw[XI];simpa using h2⟩
theorem j9{g o n c:Nat}(h:c≠0):bQ (.slice (some ⟨g,o,none⟩) n c)=[g]:=by simp[bQ,h]
theorem St.OT{w0 w:World}{H:List SA}{a:Option Addr}{c:Nat}{e:TypeId}{x:Value}{xs:List Value}(h:St w0 (lI (.slice a (x::xs).length c) e (x::xs)::H) w):St w0 (lI (.slice (lk a c 1 1) xs.length (c-1)) e xs::H) w:=by
 have hp:ug (.slice a (x::xs).length c) e (x::xs) w:=h.holds (lI (.slice a (x::xs).length c) e (x::xs)) sm;have hlo:=h.lo (lI (.slice a (x::xs).length c) e (x::xs)) sm;obtain⟨a',c',hv,hn,hc,ha,hx⟩:=hp;simp only[Value.slice.injEq,true_and]at hv;obtain⟨rfl,rfl⟩:=hv;simp only[Xq]at hn;obtain⟨g,o,cur,rfl,hg,hsz,htk⟩:=hx om;have hfp:bQ (.slice (some ⟨g,o,none⟩) (x::xs).length c)=[g]:=j9 om;have hgl:g<w.heap.size:=(Xk.1 hg).1;have htk2:(cur.toList.drop (o+1)).take xs.length=xs:=by
   have h1:=congrArg (List.drop 1) htk;rw[List.drop_take,X2]at h1;simpa using h1
 have hfp2:∀b∈bQ (.slice (lk (some ⟨g,o,none⟩) c 1 1) xs.length (c-1)),b=g:=by
   intro b hb;by_cases hc1:c=1
   · subst hc1;simp[lk,bQ]at hb
   · have he:lk (some ⟨g,o,none⟩) c 1 1=some ⟨g,o+1,none⟩:=by unfold lk;rw[if_neg hc1];rfl
     rw[he,j9 om]at hb;simpa using hb
 refine h.swap rfl rfl rfl (W8 _) (fun _ _ _=>rfl) ?_ ?_ (fun b hb=>?_)
 · by_cases hc1:c=1
   · subst hc1
     have hxs:xs=[]:=Xr om;subst hxs;exact⟨_,0,rfl,W8 _,by unfold maxLen;omega,(fun h=>rfl),fun h=>absurd rfl h⟩
   · have he:lk (some ⟨g,o,none⟩) c 1 1=some ⟨g,o+1,none⟩:=by unfold lk;rw[if_neg hc1];rfl
     exact⟨_,c-1,by rw[he],om,om,(fun h=>by cases h),fun _=>⟨g,o+1,cur,rfl,hg,om,htk2⟩⟩
 · show(bQ _).Nodup
   by_cases hc1:c=1
   · subst hc1;simp[lk,bQ]
   · have he:lk (some ⟨g,o,none⟩) c 1 1=some ⟨g,o+1,none⟩:=by unfold lk;rw[if_neg hc1];rfl
     rw[he,j9 om];simp
 · have h1:=hfp2 b hb
   refine⟨.inl ?_,by rw[h1];exact hgl⟩;show b∈bQ (.slice (some ⟨g,o,none⟩) (x::xs).length c);rw[hfp,h1];simp
theorem rC{P:Program}(w:World)(t ty e:TypeId)(i:TypeInfo)(ht:P.underlying t=some (.slice e))(hi:P.info? e=some i)(g o sLen sCap:Nat)(cur:Array Value)(hg:w.heap[g]? =some (.cells cur e (0,0)))
   (a:Addr)(m c:Nat)(news:List Value)(hl:news.length=m*i.size)(hnews:∀j u,news[j]? =some u->w.cell? (a.add j)=some u)(h1:∀u∈news,u.oneCell'=true)(hroom:sLen+m<=sCap)(hfit:o+sLen*i.size+news.length<=cur.size):(Builtin.append_ #[t,t] ty #[.slice (some ⟨g,o,none⟩) sLen sCap,.slice (some a) m c]).run P w= .ok (.slice (some ⟨g,o,none⟩) (sLen+m) sCap) (w.setRow g (cur.toList.take (o+sLen*i.size)++news++cur.toList.drop (o+sLen*i.size+news.length)).toArray):=by
 have hf:=run_firstCells_some (P:=P) w i.size m a m c news hl hnews;have hst:=run_storeCells_at P g (o+sLen*i.size) e news 0 cur w hg (by simpa using hfit) h1;simp only[Nat.add_zero]at hst;simp[Builtin.append_,run_underlying ht,sizeOf,typeInfo,hi,Builtin.lenOf,hroom,hf,Addr.add_lit,hst]
theorem z8{P:Program}{t ty e:TypeId}{i:TypeInfo}{z:Value}{bytes:Nat}(ht:P.underlying t=some (.slice e))(hi:P.info? e=some i)(hz:i.zero=some z)(hsz:i.size=1)(hby:i.bytes=bytes)(hzs:z.cells.size=1){w0 w:World}{H:List SA}{v x:Value}{xs news:List Value}
   (hw:St w0 (lI v e xs::H) w)(hx:cY w x 1 news)(h1:∀u∈news,u.oneCell'=true)(hnp:0<news.length)(h63:xs.length+news.length<=281474976710656)(hb:(xs.length+news.length)*bytes<=140737488355328):∃v' w',(Builtin.append_ #[t,t] ty #[v,x]).run P w= .ok v' w'/\St w0 (lI v' e (xs++news)::H) w'/\∃a c,v'= .slice a (xs++news).length c:=by
 have hr:ug v e xs w:=hw.holds (lI v e xs) sm;obtain⟨a,c,hv,hn,hc,ha,hcur⟩:=hr;obtain⟨xa,m,xc,hxv,hxl,hxm,hxc,hxcell⟩:=hx;have hml:m=news.length:=om;subst hml;subst hv;subst hxv;subst hby;obtain⟨sb,so,hsa,hscell⟩:=hxcell hnp;subst hsa;have hnewsAt:∀j u,news[j]? =some u->w.cell? ((⟨sb,so,none⟩:Addr).add j)=some u:=fun j u hj=>by rw[fI];exact hscell j u hj
 by_cases hroom:xs.length+news.length<=c
 · obtain⟨g,o,cur,rfl,hgw,hcs,htake⟩:=hcur om
   have hrun:=rC (P:=P) w t ty e i ht hi g o xs.length c cur hgw ⟨sb,so,none⟩ news.length xc news (by rw[hsz,Yp]) hnewsAt h1 hroom (by rw[hsz];omega);rw[hsz,Yp]at hrun;have hgl:g<w.heap.size:=(Xk.1 hgw).1;refine⟨_,_,hrun,?_,_,_,by rw[WX]⟩;refine St.swap hw rfl rfl rfl sm (fun k _ hk=>setRow_other w g k _ (fun he=>hk (by show k∈bQ (.slice (some ⟨g,o,none⟩) xs.length c);rw[j9 om,he];simp))) ?_ (by show(bQ (.slice (some ⟨g,o,none⟩) (xs.length+news.length) c)).Nodup;rw[j9 om];simp) (fun b hb'=>?_)
   · refine⟨_,_,by rw[WX],by rw[WX];exact hroom,hc,(fun h=>by cases h),fun _=>⟨g,o,_,rfl,setRow_heap w g cur _ e _ hgw,?_,?_⟩⟩
     · simp only[X5,WX,Xj,Xe,Array.length_toList]
       omega
     · have hlt:o<=(cur.toList.take (o+xs.length)).length:=by rw[Xj];have h9:cur.toList.length=cur.size:=Array.length_toList;exact Nat.le_min.2 ⟨om,om⟩
       rw[W4,Yi hlt,List.drop_take,show o+xs.length-o=xs.length by omega,htake,←W4];exact Y5
   · have hb2:b∈bQ (.slice (some ⟨g,o,none⟩) (xs.length+news.length) c):=hb'
     rw[j9 om]at hb2;obtain rfl:b=g:=by simpa using hb2
     exact⟨.inl (by show b∈bQ (.slice (some ⟨b,o,none⟩) xs.length c);rw[j9 om];simp),by simpa using hgl⟩
 · have grown:St w0 (row (.slice (some ⟨w.heap.size,0,none⟩) (xs.length+news.length) (grownCap w (xs.length+news.length) c e)) e 1 (xs++news)::H) (w.drew.alloc (.cells (xs.toArray++news.toArray++Builtin.zeroCells z.cells (grownCap w (xs.length+news.length) c e-(xs.length+news.length))) e)):=by
     have hge:=grownCap_ge w (xs.length+news.length) c e;have hcm:grownCap w (xs.length+news.length) c e<=maxLen:=grownCap_le_maxLen w (xs.length+news.length) c e agI;have h0:grownCap w (xs.length+news.length) c e≠0:=om;refine St.fresh hw.tail rfl rfl rfl sm (fun k hk=>by show(w.heap.push _)[k]? =w.heap[k]?;rw[Array.getElem?_push,if_neg om]) ?_ ?_ ?_
     · refine⟨_,_,_,rfl,sm,hge,hcm,sm,fun _=>⟨_,_,rfl,heap_alloc_new w.drew _,?_,?_⟩⟩
       · simp only[Y1,X5,size_zeroCells,hzs]
         omega
       · simp only[Array.toList_append,W4]
         rw[←W4,Yp,←WX];exact Y5
     · simp[row,bQ,h0]
     · simp[row,bQ,h0]
   cases a with
   |none=>
     have hc0:c=0:=ha rfl;subst hc0;have hxs:xs=[]:=Xr om;subst hxs;have hrun:=run_append_nil (P:=P) w t ty e i z ht hi hz ⟨sb,so,none⟩ news.length xc news (by rw[hsz,Yp]) hnewsAt hnp (by simp at h63;omega) (by simp at hb;omega);refine⟨_,_,hrun,?_,_,_,rfl⟩;have:=St.Pb grown;simpa using this
   |some ad=>
     have holds:∀j u,xs[j]? =some u->w.cell? (ad.add j)=some u:=by
       intro j u hj;have hc0:c≠0:=by
         rintro rfl;have:xs=[]:=Xr om;subst this;simp at hj
       obtain⟨g,o,cur,hg,hgw,hcs,htake⟩:=hcur hc0;obtain rfl:ad=⟨g,o,none⟩:=by simpa using hg
       rw[fI,di hgw];rw[←htake,XR]at hj
       split at hj
       · rw[Yw]at hj;simpa using hj
       · cases hj
     have hrun:=run_append_grow (P:=P) w t ty e i z ht hi hz ad xs.length c xs (by rw[hsz,Yp]) holds ⟨sb,so,none⟩ news.length xc news (by rw[hsz,Yp]) hnewsAt om om (growslice_fits om (by rw[←WX]at hb ⊢;exact hb));exact⟨_,_,hrun,St.Pb grown,_,_,by rw[WX]⟩
theorem wH{P:Program}{w0:World}{σ:Env}{H:List SA}{d:Option Nat}{ty:TypeId}{pos:String}{aft:Array Edge}{g:Option (Nat×Bool)}{K:Value->List SA->Prop}{s x:Operand}{t e bytes:Nat}{sv xv:Value}{xs news:List Value}(Hr:List SA)(hs:ev σ s=sv)(hx:ev σ x=xv)[ht:jg P t e 1 bytes](hr:∀w,St w0 H w->St w0 (lI sv e xs::Hr) w)[hn:gy w0 H xv 1 news]
   (h1:∀u∈news,u.oneCell'=true)(hnp:0<news.length)(hb:xs.length+news.length<=4294967296)(hby:Nat.ble bytes 32768=true)
   (h:∀a c,K (.slice a (xs++news).length c) (lI (.slice a (xs++news).length c) e (xs++news)::Hr)):Ef P w0 H σ ⟨d,.call ⟨.builtin .append,#[s,x],#[t,t]⟩,ty,pos,aft,g⟩ K:=fun w hw=>by
 obtain⟨i,z,hi,hz,hsz,hby',hzs⟩:=ht.spec;have hby2:=XL hby;obtain⟨v',w',hrun,hw',a,c,rfl⟩:=z8 (ty:=ty) ht.ht hi hz hsz hby' hzs (hr w hw) (hn.rd w hw) h1 hnp om (by
   calc (xs.length+news.length)*bytes<=4294967296*32768:=Yz hb hby2
     _<=140737488355328:=by decide)
 have:(execOp (ev σ) ⟨d,.call ⟨.builtin .append,#[s,x],#[t,t]⟩,ty,pos,aft,g⟩).run P w= .ok (.value (.slice a (xs++news).length c)) w':=by
   simp[execOp,resolve,invoke,builtin,hs,hx,hrun]
 rw[this];exact⟨_,h a c,hw'⟩
@[reducible] def lq(n:Nat):List Value:=[.int .i64 (n:Int)]
theorem CV(l:List Nat)(i:Nat)(h:i<l.length):(l.flatMap lq)[i]? =some (.int .i64 (l[i]:Int)):=by
 have:=iL lq 1 (fun _=>rfl) l i 0 h dc;simpa using this
theorem CZ(l:List Nat):(l.flatMap lq).length=l.length:=by have:=fy lq 1 (fun _=>rfl) l;simpa using this
@[reducible] def encI(n:Nat):Value:= .int .i64 (n:Int)
theorem L6(l:List Nat):l.flatMap lq=l.map encI:=by
 induction l with
 |nil=>rfl
 |cons x l ih=>rw[Xw,ih];rfl
theorem rS(l:List Nat)(i:Nat)(h:i<l.length):(l.map encI)[i]? =some (.int .i64 (l[i]:Int)):=by simp[h]
structure LS where
 ga:Option Addr
 gc:Nat
 av:List Nat
 gi:Nat
 nx:Nat
 bg:Bool
@[reducible] def bm(lp p:Nat)(pre:ByteArray)(t:LS):SA:=aF lp (.cells (cH.mk (some ⟨p,0,none⟩) pre ⟨t.ga,t.av.length,t.gc⟩ (t.gi:Int) (t.nx:Int) t.bg).cells 147 (0,0))
@[reducible] def bP(t:LS):SA:=lI (.slice t.ga t.av.length t.gc) 3 (t.av.map encI)
def mT:ByteArray:=⟨#[46]⟩
def fW(pre:ByteArray)(i:Nat):ByteArray:=pre++mT++⟨(Lib.decDigits i).toArray⟩
def cv(n:Nat)(l:List UInt8):List UInt8:=packed n++packed l.length++l++(fH (packed n++packed l.length++l)).toList.take 8
def bL:Nat->List (List UInt8)->List UInt8
 |_,[]=>[]
 |n,l::ls=>cv n l++bL (n+1) ls
theorem tv(ls ms:List (List UInt8)):∀n,bL n (ls++ms)=bL n ls++bL (n+ls.length) ms:=by
 induction ls with
 |nil=>intro n;rfl
 |cons l ls ih=>intro n;simp only[XG,bL,ih,W4,Xq];congr 3;omega
theorem gx(n:Nat)(hn:n<18446744073709551616)(l:List UInt8)(hl:l.length<=4294967000):(cv n l).length<=l.length+28/\8<=(cv n l).length:=by
 have h1:=bw n om;have h2:=bw l.length om;unfold cv;simp only[WX,Xj,XW];omega
def bY(l:List Nat):Nat:=l.getLastD 0
theorem BG{l:List Nat}(h:0<l.length):(l.map encI)[((l.length:Int)-1).toNat]? =some (.int .i64 ((bY l:Nat):Int)):=by
 have e:((l.length:Int)-1).toNat=l.length-1:=om;rw[e,rS l (l.length-1) om];unfold bY;rw[List.getLastD_eq_getLast?,List.getLast?_eq_getElem?,WW om];rfl
def fq(l:List Nat):Nat:=if l.length=0 then 1 else bY l+1
def sL(pre:ByteArray)(s:DS)(t:LS)(ls:List (List UInt8))(s':DS)(t':LS)(e:Int):Prop:=
 uq 2 (gl s.e2 (fW pre (fq t.av))).l.length s (fW pre (fq t.av)) (bL t.nx ls) s' e/\(e≠0->t'=t)/\
 (e=0->t'.av=t.av++[fq t.av]/\t'.gi=(bL t.nx ls).length/\t'.nx=t.nx+ls.length/\t'.bg=t.bg)
attribute [local irreducible] fH
theorem pV{a b:ByteArray}(h:a.size+b.size<=1000000):Op.stringOp .add a b=pure (.string (a++b)):=by
 have:¬(((a.size+b.size:Nat):Int)>IntKind.i64.max):=by show ¬((9223372036854775807:Int)<_);omega
 simp only[Op.stringOp,if_neg this]
theorem AU(i:Nat)(hi:i<100):(⟨(Lib.decDigits i).toArray⟩:ByteArray).size<=2:=by
 show(Lib.decDigits i).toArray.size<=2;by_cases h:i<10
 · rw[Lib.decDigits_one h];simp
 · rw[Lib.decDigits_two h hi];simp
theorem qJ{w0:World}{H:List SA}{lp p:Nat}{pre:ByteArray}{t:LS}(hp:pre.size<=1000){i:Nat}(hi:i<100):CT prog w0 (bm lp p pre t::H) 70 [.pointer (some ⟨lp,0,none⟩),.int .i64 (i:Int)] (α:=Unit) (fun _=> .string (fW pre i)) (fun _=>bm lp p pre t::H):=by
 refine al func70 rfl ntmps70 rfl (gG ?_);refine dv [(0,true),(1,true),(2,true),(3,true),(4,true),(5,true),(6,false),(7,true),(8,true)] (fun hns0=>?_);refine zd hns0 rfl (zm (.pointer _) rfl) rfl (zd hns0 rfl (aN rfl) rfl (zd hns0 rfl (zf 1 rfl rfl) rfl (zd hns0 rfl (zl rfl) rfl (zd hns0 rfl (ke (v:= .string (pre++mT)) rfl rfl (pV (b:=mT) (by have:mT.size=1:=rfl;omega))) rfl ?_))));refine gA ?_;refine cX rfl rfl (zc (Km hi) rfl (fun x11=>⟨SB,?_⟩));refine zd hns0 rfl (ke (v:= .string (fW pre i)) rfl rfl (pV (by have h1:=AU i hi;have h2:mT.size=1:=rfl;rw[YW,h2];show _+(⟨(Lib.decDigits i).toArray⟩:ByteArray).size<=_;omega))) rfl ?_;refine gA ?_;exact zX () [_] results70 ⟨rfl,trivial⟩ rfl SB
theorem EP{w0:World}{H:List SA}{n:Nat}(hn:n<18446744073709551616){b:BS}[rb:dT w0 H (.slice b.a b.l.length b.c) b.l](hl:b.l.length<=1000000):CT prog w0 (H) 141 [.int .u64 (n:Int),.slice b.a b.l.length b.c] (α:=AC) (fun y=> .slice y.a (cv n b.l).length y.c) (fun y=>row (.slice y.a (cv n b.l).length y.c) 5 1 (aE (cv n b.l))::H):=by
 refine al func141 rfl ntmps141 rfl (gG ?_);have hp1:=bw n om;have hp2:=bw b.l.length om;refine ze rfl (zc (kj (a:=none) (l:=[]) (c:=0) (x:=(n:Int)) (hr:=dT.B4) sm om om) rfl (fun x8=>?_));rw[Xh,XA];refine gG ?_;refine ze rfl (zc (gW (l:=packed n) (l2:=b.l) om om) rfl (fun x10=>gG ?_));refine ze rfl (zc (CP (l:=(packed n++packed b.l.length++b.l)) (by simp only[WX];omega)) rfl (fun x12=>?_));refine ze rfl (an (fun b6=>?_));refine aag ?_;refine zq (bI (mH (m:=8) rfl rfl underlying46 rfl rfl dc) (show Value.slice (some ⟨b6,0,none⟩) 8 32= .slice (some ⟨b6,0,none⟩) ((fH (packed n++packed b.l.length++b.l)).toList.take 8).length 32 from by simp)) rfl ?_;refine ze rfl (bR (sv:= .slice _ _ _) (xv:= .slice _ _ _) (hn:=dT.AQ (fH (packed n++packed b.l.length++b.l)) inferInstance dc dc) (l:=(packed n++packed b.l.length++b.l)) rfl rfl (by simp only[WX,Xj,XW];omega) rfl (fun a15 c15=>?_));rw[show(packed n++packed b.l.length++b.l)++(fH (packed n++packed b.l.length++b.l)).toList.take 8=cv n b.l from rfl];refine gG ?_;exact zX ⟨a15,c15⟩ [_] results141 ⟨rfl,trivial⟩ rfl SB
theorem yV{n k:Nat}{rs:List BS}(hk:k<rs.length):bL n ((rs.map BS.l).take k)++cv (n+k) rs[k].l=bL n ((rs.map BS.l).take (k+1)):=by
 rw[YA,WW abf,tv];simp only[Xj,WZ,Option.toList,bL,XP,Xn];rw[Nat.min_eq_left om]
theorem CW(n:Nat)(rs:List BS)(k:Nat):(bL n ((rs.map BS.l).take k)).length<=(bL n (rs.map BS.l)).length:=by
 have h:=tv ((rs.map BS.l).take k) ((rs.map BS.l).drop k) n;rw[XC]at h;rw[h,WX];omega
theorem E6(n:Nat)(l:List (List UInt8)):bL n (l.take 0)=[]:=rfl
attribute [local irreducible] cv bL fW bY
theorem Jt{w0:World}{H:List SA}{lp p:Nat}{pre:ByteArray}{t:LS}{s:DS}{M K:Nat}(hok:s.Ok M K)(hM:M<=1000000)(hK:K<=1000000000)(rT:1000000<=K)(hp:pre.size<=1000)(hsl:t.av.length<=1000)(hs:t.av.length=0){ra:Option Addr}{rc:Nat}{rs:List BS}[rk:gy w0 H (.slice ra rs.length rc) 1 (rs.map BS.val)][rke:ju w0 H rs](hr8:rs.length<=1000)(hrl:∀x∈rs,x.l.length<=1000000)(htot:(bL t.nx (rs.map BS.l)).length<=1000000)(hnx:t.nx<=1000000):CT prog w0 (bm lp p pre t::bP t::DS.H p s H) 140 [.pointer (some ⟨lp,0,none⟩),.slice ra rs.length rc] (α:=DS×LS×Int) (fun y=> .int .i64 y.2.2) (fun y=>pu (sL pre s t (rs.map BS.l) y.1 y.2.1 y.2.2)::bm lp p pre y.2.1::bP y.2.1::DS.H p y.1 H):=by
 refine aid ?_;refine yC ?_ ?_<;>intro h18 p18
 ·exact absurd p18 om
 refine gG ?_;refine bH [7,8,10,34,35,36,37,38,39,40,41,42,43,44,45] [34,7,8] (fun us H'=>∃(k:Nat)(ba:Option Addr)(bc:Nat),us=[.int .i64 (k:Int),.slice ba (bL t.nx ((rs.map BS.l).take k)).length bc,.int .u64 ((t.nx+k:Nat):Int)]/\row (.slice ba (bL t.nx ((rs.map BS.l).take k)).length bc) 5 1 (aE (bL t.nx ((rs.map BS.l).take k)))::bm lp p pre t::bP t::DS.H p s H=H'/\k<=rs.length) (fun us=>match us with| .int _ i::_=>rs.length-i.toNat|_=>0) ⟨0,none,0,by rw[E6];rfl,rfl,om⟩ (fun w hw=>by rw[E6];exact(SB w hw:St w0 (bm lp p pre t::bP t::DS.H p s H) w).cP 5) ?_;rintro τ0 _ _ ⟨k,ba,bc,rfl,rfl,hk0⟩ _;refine gG ?_;refine yC ?_ ?_<;>intro h35 p35
 ·have hk:k<rs.length:=om;refine gG ?_;refine ZB ?_;have:dT w0 H (.slice rs[k].a rs[k].l.length rs[k].c) rs[k].l:=rke.get (W1 hk);refine ze rfl (zc (EP (n:=t.nx+k) om (b:=rs[k]) afr) rfl (fun x41=>?_));refine ze rfl (bR (sv:= .slice _ _ _) (xv:= .slice _ _ _) (l:=bL t.nx ((rs.map BS.l).take k)) (l':=cv (t.nx+k) rs[k].l) rfl rfl ad1 rfl (fun a42 c42=>?_));rw[show bL t.nx ((rs.map BS.l).take k)++cv (t.nx+k) rs[k].l=bL t.nx ((rs.map BS.l).take (k+1))from yV hk];refine gG ?_;refine ZX ?_;exact aiQ
 have hkn:k=rs.length:=om;have htk:(rs.map BS.l).take k=(rs.map BS.l):=W7 so;rw[htk,hkn];refine gG ?_;refine Za ?_;refine dw (row (.slice ba (bL t.nx (rs.map BS.l)).length bc) 5 1 (aE (bL t.nx (rs.map BS.l)))::bm lp p pre t::bP t::H) [(0,true),(1,true),(2,true),(3,true),(4,true),(5,true),(7,true),(6,false),(8,false),(9,true)] (fun hns0=>?_);refine gA ?_;refine ae4 ?_;refine cX rfl rfl (zc (qJ (t:=t) hp (i:=1) om) rfl (fun x52=>⟨SB,?_⟩));refine ac7 ?_;refine cX rfl rfl (zc (uC (s:=s) hok hM om (b:=⟨ba,bc,(bL t.nx (rs.map BS.l))⟩) ahu ah9) rfl (fun x54=>⟨SB,?_⟩));refine im (fun hw54=>?_);refine gA ?_;refine yC ?_ ?_<;>intro h56 p56<;>refine gG ?_
 ·have e2:fq t.av=1:=if_pos hs;exact acT
 refine ze rfl (dH (v:= .int .i64 ((1:Nat):Int)) rfl (fun a64 c64=>?_));refine ze rfl (wH (bm lp p pre t::DS.H p x54.1 H) (sv:= .slice _ _ _) (xv:= .slice _ _ _) (xs:=t.av.map encI) (news:=[.int .i64 ((1:Nat):Int)]) rfl rfl (fun w hw=>(SB w hw)) (fun u hu=>by obtain rfl:u=_:=(by simpa using hu);rfl) sm so rfl (fun a65 c65=>?_));rw[show t.av.map encI++[.int .i64 ((1:Nat):Int)]=(t.av++[1]).map encI from by rw[Xi];rfl,WZ];refine gG ?_;refine aaM ?_;refine aax ?_;refine aeG ?_;have e2:fq t.av=1:=if_pos hs;have h0:x54.2=0:=om;exact zX (x54.1,(⟨a65,c65,t.av++[1],(bL t.nx (rs.map BS.l)).length,t.nx+rs.length,t.bg⟩:LS),x54.2) [_] results140 ⟨rfl,trivial⟩ (by rw[h0];rfl) (fun w hw=>(SB w hw:St w0 (bm lp p pre (⟨a65,c65,t.av++[1],(bL t.nx (rs.map BS.l)).length,t.nx+rs.length,t.bg⟩:LS)::bP (⟨a65,c65,t.av++[1],(bL t.nx (rs.map BS.l)).length,t.nx+rs.length,t.bg⟩:LS)::DS.H p x54.1 H) w).aC ⟨by rw[e2];exact hw54,fun h=>absurd h0 h,fun _=>⟨by rw[e2],rfl,by rw[WZ],rfl⟩⟩)
theorem Jg{w0:World}{H:List SA}{lp p:Nat}{pre:ByteArray}{t:LS}{s:DS}{M K:Nat}(hok:s.Ok M K)(hM:M<=1000000)(hK:K<=1000000000)(rT:1000000<=K)(hp:pre.size<=1000)(hsl:t.av.length<=1000)(hs:0<t.av.length)(hlast:bY t.av<99){ra:Option Addr}{rc:Nat}{rs:List BS}[rk:gy w0 H (.slice ra rs.length rc) 1 (rs.map BS.val)][rke:ju w0 H rs](hr8:rs.length<=1000)(hrl:∀x∈rs,x.l.length<=1000000)(htot:(bL t.nx (rs.map BS.l)).length<=1000000)(hnx:t.nx<=1000000):CT prog w0 (bm lp p pre t::bP t::DS.H p s H) 140 [.pointer (some ⟨lp,0,none⟩),.slice ra rs.length rc] (α:=DS×LS×Int) (fun y=> .int .i64 y.2.2) (fun y=>pu (sL pre s t (rs.map BS.l) y.1 y.2.1 y.2.2)::bm lp p pre y.2.1::bP y.2.1::DS.H p y.1 H):=by
 refine aid ?_;refine yC ?_ ?_<;>intro h18 p18
 ·refine gA ?_;refine zq (bj rfl rfl om acG) rfl (zq (bC (.int .i64 ((bY t.av:Nat):Int)) rfl (BG hs)) rfl ?_);refine gA ?_;refine bH [7,8,10,34,35,36,37,38,39,40,41,42,43,44,45] [34,7,8] (fun us H'=>∃(k:Nat)(ba:Option Addr)(bc:Nat),us=[.int .i64 (k:Int),.slice ba (bL t.nx ((rs.map BS.l).take k)).length bc,.int .u64 ((t.nx+k:Nat):Int)]/\row (.slice ba (bL t.nx ((rs.map BS.l).take k)).length bc) 5 1 (aE (bL t.nx ((rs.map BS.l).take k)))::bm lp p pre t::bP t::DS.H p s H=H'/\k<=rs.length) (fun us=>match us with| .int _ i::_=>rs.length-i.toNat|_=>0) ⟨0,none,0,by rw[E6];rfl,rfl,om⟩ (fun w hw=>by rw[E6];exact(SB w hw:St w0 (bm lp p pre t::bP t::DS.H p s H) w).cP 5) ?_;rintro τ0 _ _ ⟨k,ba,bc,rfl,rfl,hk0⟩ _;refine gG ?_;refine yC ?_ ?_<;>intro h35 p35
  ·have hk:k<rs.length:=om;refine gG ?_;refine ZB ?_;have:dT w0 H (.slice rs[k].a rs[k].l.length rs[k].c) rs[k].l:=rke.get (W1 hk);refine ze rfl (zc (EP (n:=t.nx+k) om (b:=rs[k]) afr) rfl (fun x41=>?_));refine ze rfl (bR (sv:= .slice _ _ _) (xv:= .slice _ _ _) (l:=bL t.nx ((rs.map BS.l).take k)) (l':=cv (t.nx+k) rs[k].l) rfl rfl ad1 rfl (fun a42 c42=>?_));rw[show bL t.nx ((rs.map BS.l).take k)++cv (t.nx+k) rs[k].l=bL t.nx ((rs.map BS.l).take (k+1))from yV hk];refine gG ?_;refine ZX ?_;exact aiQ
  have hkn:k=rs.length:=om;have htk:(rs.map BS.l).take k=(rs.map BS.l):=W7 so;rw[htk,hkn];refine gG ?_;refine Za ?_;refine dw (row (.slice ba (bL t.nx (rs.map BS.l)).length bc) 5 1 (aE (bL t.nx (rs.map BS.l)))::bm lp p pre t::bP t::H) [(0,true),(1,true),(2,true),(3,true),(4,true),(5,true),(7,true),(6,false),(8,false),(9,true)] (fun hns0=>?_);refine gA ?_;refine ae4 ?_;refine cX rfl rfl (zc (qJ (t:=t) hp (i:=(bY t.av+1)) om) rfl (fun x52=>⟨SB,?_⟩));refine ac7 ?_;refine cX rfl rfl (zc (uC (s:=s) hok hM om (b:=⟨ba,bc,(bL t.nx (rs.map BS.l))⟩) ahu ah9) rfl (fun x54=>⟨SB,?_⟩));refine im (fun hw54=>?_);refine gA ?_;refine yC ?_ ?_<;>intro h56 p56<;>refine gG ?_
  ·have e2:fq t.av=(bY t.av+1):=if_neg om;exact acT
  refine ze rfl (dH (v:= .int .i64 (((bY t.av+1):Nat):Int)) rfl (fun a64 c64=>?_));refine ze rfl (wH (bm lp p pre t::DS.H p x54.1 H) (sv:= .slice _ _ _) (xv:= .slice _ _ _) (xs:=t.av.map encI) (news:=[.int .i64 (((bY t.av+1):Nat):Int)]) rfl rfl (fun w hw=>(SB w hw)) (fun u hu=>by obtain rfl:u=_:=(by simpa using hu);rfl) sm so rfl (fun a65 c65=>?_));rw[show t.av.map encI++[.int .i64 (((bY t.av+1):Nat):Int)]=(t.av++[(bY t.av+1)]).map encI from by rw[Xi];rfl,WZ];refine gG ?_;refine aaM ?_;refine aax ?_;refine aeG ?_;have e2:fq t.av=(bY t.av+1):=if_neg om;have h0:x54.2=0:=om;exact zX (x54.1,(⟨a65,c65,t.av++[(bY t.av+1)],(bL t.nx (rs.map BS.l)).length,t.nx+rs.length,t.bg⟩:LS),x54.2) [_] results140 ⟨rfl,trivial⟩ (by rw[h0];rfl) (fun w hw=>(SB w hw:St w0 (bm lp p pre (⟨a65,c65,t.av++[(bY t.av+1)],(bL t.nx (rs.map BS.l)).length,t.nx+rs.length,t.bg⟩:LS)::bP (⟨a65,c65,t.av++[(bY t.av+1)],(bL t.nx (rs.map BS.l)).length,t.nx+rs.length,t.bg⟩:LS)::DS.H p x54.1 H) w).aC ⟨by rw[e2];exact hw54,fun h=>absurd h0 h,fun _=>⟨by rw[e2],rfl,by rw[WZ],rfl⟩⟩)
 exact absurd p18 om
end
section
variable {w0:World} {H:List SA} {p M K lp:Nat} {pre:ByteArray} {s:DS} {t:LS}
theorem Al(hok:s.Ok M K)(hM:M<=1000000)(hK:K<=1000000000)(rT:1000000<=K)(hp:pre.size<=1000)(hsl:t.av.length<=1000)(hlast:bY t.av<99){ra:Option Addr}{rc:Nat}{rs:List BS}[rk:gy w0 H (.slice ra rs.length rc) 1 (rs.map BS.val)][rke:ju w0 H rs](hr8:rs.length<=1000)(hrl:∀x∈rs,x.l.length<=1000000)(htot:(bL t.nx (rs.map BS.l)).length<=1000000)(hnx:t.nx<=1000000):CT prog w0 (bm lp p pre t::bP t::DS.H p s H) 140 [.pointer (some ⟨lp,0,none⟩),.slice ra rs.length rc] (α:=DS×LS×Int) (fun y=> .int .i64 y.2.2) (fun y=>pu (sL pre s t (rs.map BS.l) y.1 y.2.1 y.2.2)::bm lp p pre y.2.1::bP y.2.1::DS.H p y.1 H):=by
 by_cases hs:t.av.length=0
 · exact Jt hok hM hK rT hp hsl hs hr8 hrl htot hnx
 · exact Jg hok hM hK rT hp hsl om hlast hr8 hrl htot hnx
theorem nd(n:Nat)(l:List UInt8):bL n [l]=cv n l:=by simp only[bL,Xn]
theorem Fv{b:BS}[h:dT w0 H (.slice b.a b.l.length b.c) b.l]:ju w0 H [b]:=⟨fun x hx w hw=>by
 obtain rfl:x=b:=aev;exact h.rd w hw⟩
def kS(pre:ByteArray)(s:DS)(t:LS)(l:List UInt8)(s':DS)(t':LS)(e:Int):Prop:=
 ((t.av.length=0∨2048<=t.gi)/\sL pre s t [l] s' t' e)∨
 (¬(t.av.length=0∨2048<=t.gi)/\uq 1 0 s (fW pre (bY t.av)) (cv t.nx l) s' e/\(e≠0->t'=t)/\(e=0->t'.av=t.av/\t'.gi=t.gi+(cv t.nx l).length/\t'.nx=t.nx+1/\t'.bg=t.bg))
theorem AI{s:ByteArray}(h1:1<=s.size)(h2:s.size<=8):tU s=decide (Lib.idxFunc pw true s<0):=by
 unfold tU;rw[decide_eq_true h1,decide_eq_true h2];simp
theorem AT{s:ByteArray}(h:¬(1<=s.size/\s.size<=8)):tU s=false:=by
 unfold tU;by_cases h1:1<=s.size
 · rw[decide_eq_false (show ¬s.size<=8 by omega)];simp
 · rw[decide_eq_false h1];simp
attribute [local irreducible] cv bL fW bY
theorem pM(hok:s.Ok M K)(hM:M<=1000000)(hK:K<=1000000000)(rT:1000000<=K)(hp:pre.size<=1000)(hsl:t.av.length<=1000)(hlast:bY t.av<99)(hsz:t.gi<=10000000)(hnx:t.nx<=1000000){b:BS}[rb:dT w0 H (.slice b.a b.l.length b.c) b.l](hb:b.l.length<=40000):CT prog w0 (bm lp p pre t::bP t::DS.H p s H) 78 [.pointer (some ⟨lp,0,none⟩),.slice b.a b.l.length b.c] (α:=DS×LS×Int) (fun y=> .int .i64 y.2.2) (fun y=>pu (kS pre s t b.l y.1 y.2.1 y.2.2)::bm lp p pre y.2.1::bP y.2.1::DS.H p y.1 H):=by
 refine al func78 rfl ntmps78 rfl (gG ?_);refine ZY ?_;refine Zb ?_;refine yC ?_ ?_<;>intro h14 p14<;>refine gG ?_
 ·refine ze rfl (dH (v:=(.slice _ _ _)) rfl (fun a17 c17=>?_));refine cu (bm lp p pre t::bP t::DS.H p s (row (.slice a17 1 c17) 47 1 [.slice b.a b.l.length b.c]::H)) ?_;refine ze rfl (zc (Al (s:=s) (t:=t) (rs:=[b]) (rk:=(inferInstanceAs (gy w0 (row (.slice a17 1 c17) 47 1 [.slice b.a b.l.length b.c]::H) (.slice a17 1 c17) 1 [.slice b.a b.l.length b.c]))) (rke:=Fv) hok hM hK rT hp hsl hlast sm (fun x hx=>by obtain rfl:x=b:=aev;omega) afJ hnx) rfl (fun x18=>?_));refine aV (fun hb18=>?_);refine gG ?_;exact zX x18 [_] results78 ⟨rfl,trivial⟩ rfl (aP (.inl ⟨.inl om,hb18⟩) SB)
 refine yC ?_ ?_<;>intro h23 p23<;>refine gG ?_
 ·refine ze rfl (dH (v:=(.slice _ _ _)) rfl (fun a26 c26=>?_));refine cu (bm lp p pre t::bP t::DS.H p s (row (.slice a26 1 c26) 47 1 [.slice b.a b.l.length b.c]::H)) ?_;refine ze rfl (zc (Al (s:=s) (t:=t) (rs:=[b]) (rk:=(inferInstanceAs (gy w0 (row (.slice a26 1 c26) 47 1 [.slice b.a b.l.length b.c]::H) (.slice a26 1 c26) 1 [.slice b.a b.l.length b.c]))) (rke:=Fv) hok hM hK rT hp hsl hlast sm (fun x hx=>by obtain rfl:x=b:=aev;omega) afJ hnx) rfl (fun x27=>?_));refine aV (fun hb27=>?_);refine gG ?_;exact zX x27 [_] results78 ⟨rfl,trivial⟩ rfl (aP (.inl ⟨.inr om,hb27⟩) SB)
 refine ze rfl (zc (EP (n:=t.nx) om (b:=b) om) rfl (fun x33=>?_));have htl:=gx t.nx om b.l om;refine gG ?_;refine dw (row (.slice x33.a (cv t.nx b.l).length x33.c) 5 1 (aE (cv t.nx b.l))::bm lp p pre t::bP t::H) [(0,true),(1,true),(2,true),(3,true),(4,true),(5,true),(6,true),(7,true),(8,true),(9,true),(10,true),(11,true),(12,true),(13,true),(14,true),(15,true),(16,true),(18,true),(17,false),(19,false),(20,true)] (fun hns0=>?_);refine zd hns0 rfl (zm (.pointer _) rfl) rfl (zd hns0 rfl (aN rfl) rfl (zd hns0 rfl (zf 0 rfl rfl) rfl (zd hns0 rfl (zl rfl) rfl (zd hns0 rfl (zm (.pointer _) rfl) rfl (zd hns0 rfl (zm (.pointer _) rfl) rfl (zd hns0 rfl (aN rfl) rfl (zd hns0 rfl (zf 2 rfl rfl) rfl ?_)))))));refine zd hns0 rfl (zl rfl) rfl (zd hns0 rfl (zm (.pointer _) rfl) rfl (zd hns0 rfl (aN rfl) rfl (zd hns0 rfl (zf 2 rfl rfl) rfl (zd hns0 rfl (zl rfl) rfl (zd hns0 rfl (zL rfl underlying145) rfl ?_)))))
 first|refine zd hns0 rfl (jG rfl rfl om om) rfl ?_|refine zd hns0 rfl (iq rfl rfl) rfl ?_
 refine zd hns0 rfl (bj rfl rfl om acG) rfl (zd hns0 rfl (bC (.int .i64 ((bY t.av:Nat):Int)) rfl (BG om)) rfl ?_);refine gA ?_;refine ae4 ?_;refine cX rfl rfl (zc (qJ (t:=t) hp (i:=bY t.av) om) rfl (fun x51=>⟨SB,?_⟩));refine gX (fun w hw=>(SB w hw:St w0 (DS.H p s (row (.slice x33.a (cv t.nx b.l).length x33.c) 5 1 (aE (cv t.nx b.l))::bm lp p pre t::bP t::H)) w)) ?_;refine cX rfl rfl (zc (HI (s:=s) hok hM om (b:=⟨x33.a,x33.c,(cv t.nx b.l)⟩) (by show(cv t.nx b.l).length<=2000000;omega) (by show(cv t.nx b.l).length<=K;omega)) rfl (fun x53=>⟨SB,?_⟩));refine im (fun hw53=>?_);refine gA ?_;refine yC ?_ ?_<;>intro h55 p55
 ·refine gG ?_;exact zX (x53.1,t,x53.2) [_] results78 ⟨rfl,trivial⟩ rfl (aP (.inr ⟨om,hw53,fun _=>rfl,fun h=>absurd h p55⟩) SB)
 refine zk (zx (zS (zR (zq (zm (.pointer _) rfl) rfl (zq (aN rfl) rfl (zq (zf 3 rfl rfl) rfl (zq (zl rfl) rfl ?_)))))));refine zq (zm (.slice _ _ _) rfl) rfl (zq (zL rfl underlying47) rfl ?_)
 first|refine yP rfl rfl ?_|refine zq (bU rfl rfl) rfl ?_
 rw[show(t.gi:Int)+((cv t.nx b.l).length:Int)=((t.gi+(cv t.nx b.l).length:Nat):Int)from rfl];refine gG ?_;refine aax ?_;refine zq (bI (bU rfl rfl) (congrArg (Value.int .u64) (show IntKind.u64.wrap ((t.nx:Int)+1)=((t.nx+1:Nat):Int)from wrap_u64 om om))) rfl ?_;refine gG ?_;refine aeG ?_;have h0:x53.2=0:=om;exact zX (x53.1,(⟨t.ga,t.gc,t.av,t.gi+(cv t.nx b.l).length,t.nx+1,t.bg⟩:LS),x53.2) [_] results78 ⟨rfl,trivial⟩ (by rw[h0];rfl) (aP (.inr ⟨om,hw53,fun h=>absurd h0 h,fun _=>⟨rfl,rfl,rfl,rfl⟩⟩) SB)
theorem Lv(hok:s.Ok M K)(hM:M<=1000000)(hK:K<=1000000000):CT prog w0 (bm lp p pre t::bP t::DS.H p s H) 145 [.pointer (some ⟨lp,0,none⟩)] (α:=DS) (fun _=> .tuple #[]) (fun y=>pu (rM s y)::bm lp p pre t::bP t::DS.H p y H):=by
 refine al func145 rfl ntmps145 rfl (gG ?_);refine zq (pz rfl rfl underlying82) rfl ?_;refine gG ?_;refine Ze ?_;refine ahC ?_;refine ze rfl (zc (pf (s:=s) hok hM om) rfl (fun x8=>?_));refine aV (fun h8=>?_);refine gG ?_;exact zX x8 [] results145 trivial rfl (fun w hw=>(SB w hw:St w0 (bm lp p pre t::bP t::DS.H p x8 H) w).aC h8)
theorem JY{s:ByteArray}(hs:s.size<=maxLen):CT prog w0 (H) 66 [.string s] (α:=Unit) (fun _=> .bool (tU s)) (fun _=>H):=by
 refine al func66 rfl ntmps66 rfl (gG ?_);refine Zy ?_;refine yS 6 ?_ ?_<;>intro h6 p6<;>refine gG ?_
 ·refine Zy ?_;refine yS 11 ?_ ?_<;>intro h11 p11<;>refine gG ?_
  ·refine ze rfl (zc (Of (s:=s)) rfl (fun x13=>gG ?_));exact acj
  exact acj
 exact acj
theorem NG{es:FM}(h:es=[]):(bS es).length=0:=by rw[w5,h];rfl
theorem KH(hok:s.Ok M K)(hM:M<=1000000)(he:s.e2=[])(hs:pre.size<=maxLen)(hf:tU pre=true):CT prog w0 (DS.H p s H) 26 [.pointer (some ⟨p,0,none⟩),.string pre] (α:=Nat) (fun y=> .tuple #[.pointer (some ⟨y,0,none⟩),.slice none 0 0,.int .i64 0]) (fun y=>bm y p pre (⟨none,0,[],0,1,false⟩:LS)::bP (⟨none,0,[],0,1,false⟩:LS)::DS.H p s H):=by
 refine aiw ?_;refine Zm ?_;refine Zb ?_;refine ze rfl (zc (JY hs) rfl (fun x24=>?_));rw[hf];refine gG ?_;refine Zb ?_;refine ae9 ?_;refine ze rfl (aZ rfl (fun b29=>gG ?_));refine cu (DS.H p s (bm b29 p pre (⟨none,0,[],0,1,false⟩:LS)::H)) ?_;refine ze rfl (zc (CB (s:=s) hok hM (by rw[he];intro e h;cases h)) rfl (fun x31=>?_));rw[NG he];refine gG ?_;refine gD (cc ?_);refine gG ?_;refine Zb ?_;refine Zl ?_;refine ze rfl (zc (KG) rfl (fun x57=>gG ?_));refine gD (cc ?_);refine gG ?_;refine Zb ?_;refine Zl ?_;exact zX b29 [_,_,_] results26 ⟨rfl,rfl,rfl,trivial⟩ rfl (fun w hw=>by
  have h1:=St.Pb ((SB w hw:St w0 (bm b29 p pre (⟨none,0,[],0,1,false⟩:LS)::DS.H p s H) w).cT 3 1);exact(cJ.st (H:=lI (.slice none 0 0) 3 []::bm b29 p pre (⟨none,0,[],0,1,false⟩:LS)::DS.H p s H) inferInstance w h1:St w0 (bm b29 p pre (⟨none,0,[],0,1,false⟩:LS)::lI (.slice none 0 0) 3 []::DS.H p s H) w))
end
end Go.Proofs.YtmbfimckmfnnjaaGreatDoor
