/- Steps of the proof of a law. -/
import Derived.Test.YtmbfimckmfnnjaaGreatDoorQ01
import Derived.ProofKit
import Derived.OpenShut
import Derived.Below
import Derived.Carry
import Derived.Laws.CopyRow
import Derived.Laws.IdiomCopy
import Derived.Laws.MakeOwn
set_option maxRecDepth 100000
set_option maxHeartbeats 1000000
set_option linter.unusedSimpArgs false
set_option linter.unusedVariables false
section
namespace Go.Sx
open Go.RowKit
structure BS where
 a:Option Addr
 c:Nat
 l:List UInt8
@[reducible] def BS.val(b:BS):Value:= .slice b.a b.l.length b.c
structure PS where
 a:Option Addr
 c:Nat
 ls:List BS
structure Sl where
 a:Option Addr
 n:Nat
 c:Nat
def aX{n:Nat}(h:Vector UInt8 n):List Value:=aE h.toList
@[simp] theorem aB{n:Nat}(h:Vector UInt8 n):(aX h).length=n:=by simp[aX]
def zeroV(n:Nat):Vector UInt8 n:=Vector.replicate n 0
theorem fP(pre fr post:List Value){o n:Nat}(ho:pre.length=o)(hn:fr.length=n):(pre++(fr++post)).toArray.extract o (o+n)=fr.toArray:=by
 subst ho;subst hn;simp[List.extract_eq_take_drop]
theorem fN(pre fr post:List Value){o n:Nat}{v:Value}(ho:pre.length=o)(hn:fr.length=n)(hv:v.cells.size=n):putCells (pre++(fr++post)).toArray o v=(pre++(v.cells.toList++post)).toArray:=by
 have key:∀(vs:List Value)(done fr:List Value),fr.length=vs.length->
     (vs.zipIdx done.length).foldl (fun(cs:Array Value)(x:Value×Nat)=>cs.setIfInBounds (o+x.2) x.1) (pre++(done++(fr++post))).toArray=(pre++(done++(vs++post))).toArray:=by
   intro vs
   induction vs with
   |nil=>intro done fr hm;simp at hm;subst hm;simp
   |cons u us ih=>
     intro done fr hm;cases fr with
     |nil=>simp at hm
     |cons m ms=>
       simp only[List.zipIdx_cons,Ys];have hset:(pre++(done++(m::ms++post))).toArray.setIfInBounds (o+done.length) u=(pre++((done++[u])++(ms++post))).toArray:=by
         subst ho;simp[List.setIfInBounds_toArray,List.set_append]
       rw[hset];have:=ih (done++[u]) ms (by simpa using hm);simp only[WX,XB]at this;rw[this];simp
 have h1:=key v.cells.toList [] fr (by simp[hn,hv]);unfold putCells;rw[←Array.foldl_toList];simpa using h1
theorem bD.fr(pre fr post:List Value){cs:Array Value}{o n:Nat}{v:Value}(hcs:cs=(pre++(fr++post)).toArray)(ho:pre.length=o)(hn:fr.length=n)(hv:v.cells.size=n):bD cs o v (pre++(v.cells.toList++post)).toArray:=by
 subst hcs;exact⟨fN pre fr post ho hn hv,by simp[ho,hn,hv]⟩
theorem Cells.list{l:List Value}{n:Nat}(hn:l.length=n)(h1:l.all Value.oneCell'=true):Cells l.toArray n:=⟨by simpa using hn,by simpa using h1⟩
@[simp] theorem Hi{n:Nat}(h:Vector UInt8 n):(aX h).all Value.oneCell'=true:=by
 rw[Yc];exact vq _
instance {n:Nat}{h:Vector UInt8 n}:Cells (aX h).toArray n:=Cells.list sm sm
instance {n:Nat}{h:Vector UInt8 n}:dh (aX h).toArray 0 n (aX h).toArray:=⟨by apply XX<;>simp⟩
end Go.Sx
namespace Go.Sx
open Go.RowKit
structure AC where
 a:Option Addr
 c:Nat
theorem Kf{w0:World}{e:Exit}{Q:iM}{σ:Env}{H:List SA}{p:Prop}(hk:∀w,St w0 H w->p)(h:p->X w0 e Q σ H):X w0 e Q σ H:=fun w hw=>h (hk w hw) w hw
theorem Ic{w0:World}{e:Exit}{Q:iM}{σ:Env}{H:List SA}{p:Prop}(h:p->X w0 e Q σ H):X w0 e Q σ (pu p::H):=fun w hw=>h hw.pure w hw.tail
theorem cY.none{w:World}{n c sz:Nat}{xs:List Value}(h:cY w (.slice .none n c) sz xs):xs=[]:=by
 obtain⟨a,n',c',hv,hl,hn,hc,hx⟩:=h;obtain⟨rfl,rfl,rfl⟩:a= .none/\n'=n/\c'=c:=abQ;cases xs with
 |nil=>rfl
 |cons x xs=>obtain⟨b,o,hb,_⟩:=hx sm;cases hb
theorem gN.none{w:World}{n c:Nat}{l:List UInt8}(h:gN w (.slice .none n c) l):l=[]:=by
 have:=cY.none h;simpa[aE]using this
theorem pN{P:Program}{w0:World}{σ:Env}{H:List SA}{d:Option Nat}{ty:TypeId}{pos:String}{aft:Array Edge}{g:Option (Nat×Bool)}{t t':TypeId}{x y:Operand}{k k':IntKind}{a:Nat}(s:Nat)
   (hx:ev σ x= .int k a)(hy:ev σ y= .int k' (s:Int))(hs:s<=k.bits):Qt P w0 H σ ⟨d,.binOp .shr t x y t',ty,pos,aft,g⟩ (.int k ((a/2^s:Nat):Int)):=by
 have:=Eo (P:=P) (w0:=w0) (H:=H) (d:=d) (ty:=ty) (pos:=pos) (aft:=aft) (g:=g) (t:=t) (t':=t') hx hy om;have e:((a:Int).fdiv (2^(min (s:Int).toNat k.bits)))=((a/2^s:Nat):Int):=by
   have h1:min (s:Int).toNat k.bits=s:=so;rw[h1,Int.fdiv_eq_ediv_of_nonneg _ (by exact Int.pow_nonneg dc)]
   push_cast
   rfl
 rwa [e]at this
end Go.Sx
end
section
namespace Go.Sx
open Go.RowKit
class Key(P:Program)(K:TypeId){κ:Type}[DecidableEq κ](enc:κ->Value):Prop where
 eq:∀(x y:κ)(w:World),(Op.equal K (enc x) (enc y)).run P w= .ok (decide (x=y)) w
 now:∀(d:TypeDesc),P.underlying K=some d->∀x y:κ,Instr.sameNow d (enc x) (enc y)=none∨Instr.sameNow d (enc x) (enc y)=some (decide (x=y))
 there:(P.underlying K).isSome=true
 check:∀(k:κ)(empty:Bool)(w:World),(Instr.checkKey empty 10000 K (enc k)).run P w= .ok () w
 same:∀k:κ,Instr.sameBits 10000 (enc k) (enc k)=true
structure iK(κ ν:Type) where
 k:κ
 v:ν
 b:Nat
section
variable {κ ν:Type} [DecidableEq κ]
def fe(enc:κ->Value)(ev:ν->Value)(e:iK κ ν):MapEntry:=⟨enc e.k,ev e.v,e.b⟩
def cF(enc:κ->Value)(ev:ν->Value)(es:List (iK κ ν))(clock:Nat):Obj:= .map (es.map (fe enc ev)).toArray clock
def eu(es:List (iK κ ν))(k:κ):Option ν:=(es.find? fun e=>decide (k=e.k)).map (·.v)
def eZ(es:List (iK κ ν))(k:κ):Bool:=(eu es k).isSome
def fZ:List (iK κ ν)->κ->ν->Nat->List (iK κ ν)
 |[],k,v,c=>[⟨k,v,c⟩]
 |e::es,k,v,c=>if k=e.k then⟨k,v,e.b⟩::es else e::fZ es k v c
def ji:List (iK κ ν)->κ->List (iK κ ν)
 |[],_=>[]
 |e::es,k=>if k=e.k then es else e::ji es k
def gM(es:List (iK κ ν))(k:κ)(c:Nat):Nat:=bif eZ es k then c else c+1
structure eQ(es:List (iK κ ν))(clock:Nat):Prop where
 keys:(es.map (·.k)).Nodup
 born:(es.map (·.b)).Nodup
 lt:∀e∈es,e.b<clock
omit [DecidableEq κ] in
theorem eQ.nil:eQ ([]:List (iK κ ν)) 0:=⟨sm,sm,sm⟩
def lA:List (iK κ ν)->κ->Nat->Option (Nat×ν)
 |[],_,_=>none
 |e::es,k,i=>if k=e.k then some (i,e.v)else lA es k (i+1)
theorem rZ(es:List (iK κ ν))(k:κ):∀i,(lA es k i).map (·.2)=eu es k:=by
 induction es with
 |nil=>intro i;rfl
 |cons e es ih=>
   intro i;by_cases h:k=e.k
   · simp[lA,eu,h]
   · simp only[lA,h,if_false,ih]
     simp[eu,h]
variable {P:Program} {K:TypeId} {enc:κ->Value} {ev:ν->Value}
theorem pd[hk:Key P K enc](k:κ)(w:World):∀(es:List (iK κ ν))(i:Nat),(Instr.findAsking K (enc k) (es.map (fe enc ev)) i).run P w= .ok ((lA es k i).map fun p=>(p.1,ev p.2)) w
 |[],i=>rfl
 |e::es,i=>by
   simp only[Xt,Instr.findAsking,Sem.run_bind,fe,hk.eq,Result.andThen_ok];by_cases h:k=e.k
   · simp[h,lA]
   · simp only[h,decide_false,Xm,if_false,lA]
     exact pd k w es (i+1)
theorem vt[hk:Key P K enc](d:TypeDesc)(hd:P.underlying K=some d)(k:κ):∀(es:List (iK κ ν))(i:Nat),Instr.findNow d (enc k) (es.map (fe enc ev)) i=none∨Instr.findNow d (enc k) (es.map (fe enc ev)) i=some ((lA es k i).map fun p=>(p.1,ev p.2))
 |[],i=> .inr rfl
 |e::es,i=>by
   simp only[Xt,Instr.findNow,fe];rcases hk.now d hd k e.k with h|h
   · left;rw[h]
   · rw[h]
     by_cases he:k=e.k
     · right;simp[he,lA]
     · simp only[he,decide_false,lA,if_false]
       exact vt d hd k es (i+1)
theorem mo[hk:Key P K enc](k:κ)(es:List (iK κ ν))(w:World):(Instr.findKey K (enc k) (es.map (fe enc ev))).run P w= .ok ((lA es k 0).map fun p=>(p.1,ev p.2)) w:=by
 obtain⟨d,hd⟩:=XH.1 hk.there;simp only[Instr.findKey,Sem.run_bind,run_underlying hd,Result.andThen_ok];rcases vt (P:=P) (K:=K) (enc:=enc) (ev:=ev) d hd k es 0 with h|h
 · rw[h];exact pd k w es 0
 · rw[h];rfl
theorem gE{w:World}{r:Nat}{es:Array MapEntry}{c:Nat}(h:w.heap[r]? =some (.map es c)):(getObj r).run P w= .ok (.map es c) w:=by
 simp[getObj,Sem.run,h]
theorem nP{w:World}{r:Nat}{es:Array MapEntry}{c:Nat}(h:w.heap[r]? =some (.map es c))(o:Obj):(setObj r o).run P w= .ok () {w with heap:=w.heap.setIfInBounds r o}:=by
 simp[setObj,Sem.run,h]
theorem St.setObj{w0 w:World}{H:List SA}{r:Nat}{o o':Obj}(h:St w0 (aF r o::H) w):St w0 (aF r o'::H) {w with heap:=w.heap.setIfInBounds r o'}:=by
 have hr:w.heap[r]? =some o:=h.holds (aF r o) sm;have hlt:r<w.heap.size:=(Xk.1 hr).1;refine h.swap rfl rfl rfl sm (fun k _ hk=>?_) ?_ (by simp[aF]) ?_
 · have:r≠k:=fun e=>hk (by simp[aF,e])
   simp[Array.getElem?_setIfInBounds,this]
 · show(w.heap.setIfInBounds r o')[r]? =some o'
   simp[hlt]
 · intro b hb;simp[aF]at hb;subst hb;exact⟨.inl (by simp[aF]),by simpa using hlt⟩
variable {w0:World} {σ:Env} {H:List SA} {d:Option Nat} {ty:TypeId} {pos:String} {aft:Array Edge} {g:Option (Nat×Bool)}
omit [DecidableEq κ] in
theorem mj{t:TypeId}{K':Value->List SA->Prop}(enc:κ->Value)(ev:ν->Value)(h:∀r,K' (.map (some r)) (aF r (cF enc ev [] 0)::H)):Ef P w0 H σ ⟨d,.makeMap t none,ty,pos,aft,g⟩ K':=fun w hw=>by
 simp only[execOp,Instr.makeMap,Yt,Sem.run_bind,run_newObj,Result.andThen_ok,Sem.run_pure,upon];exact ad8
theorem oi{x k:Operand}{t r c:Nat}{E:TypeId}{es:List (iK κ ν)}{key:κ}(z:ν)(hx:Sx.ev σ x= .map (some r))(hkey:Sx.ev σ k=enc key)[hk:Key P K enc][hm:Mem w0 H r (cF enc ev es c)]
   (ht:P.underlying t=some (.map K E))(hz:(P.info? E).bind (·.zero)=some (ev z)):Qt P w0 H σ ⟨d,.lookup t x k true,ty,pos,aft,g⟩ (.tuple #[ev ((eu es key).getD z),.bool (eZ es key)]):=fun w hw=>by
 simp only[execOp,hx,hkey,Instr.lookup,Sem.run_bind,run_underlying ht,Result.andThen_ok,gE (hm.get w hw),Sem.run_pure,hk.check,mo];rw[←rZ es key 0];simp only[eZ,←rZ es key 0];cases hi:lA es key 0 with
 |none=>simp[fK hz,hi]
 |some p=>simp[hi]
theorem lZ{x k:Operand}{t r c:Nat}{E:TypeId}{es:List (iK κ ν)}{key:κ}(z:ν)(hx:Sx.ev σ x= .map (some r))(hkey:Sx.ev σ k=enc key)[hk:Key P K enc][hm:Mem w0 H r (cF enc ev es c)]
   (ht:P.underlying t=some (.map K E))(hz:(P.info? E).bind (·.zero)=some (ev z)):Qt P w0 H σ ⟨d,.lookup t x k false,ty,pos,aft,g⟩ (ev ((eu es key).getD z)):=fun w hw=>by
 simp only[execOp,hx,hkey,Instr.lookup,Sem.run_bind,run_underlying ht,Result.andThen_ok,gE (hm.get w hw),Sem.run_pure,hk.check,mo];rw[←rZ es key 0];cases hi:lA es key 0 with
 |none=>simp[fK hz]
 |some p=>simp
theorem sQ(es:List (iK κ ν))(k:κ):∀i,lA es k i=none↔eZ es k=false:=by
 intro i;have:=rZ es k i;cases h:lA es k i with
 |none=>simp[h]at this;simp[eZ,←this]
 |some p=>simp[h]at this;simp[eZ,←this]
theorem lO:∀(es:List (iK κ ν))(k:κ)(v:ν)(c:Nat),eZ es k=false->fZ es k v c=es++[⟨k,v,c⟩]
 |[],_,_,_,_=>rfl
 |e::es,k,v,c,h=>by
   have hne:¬k=e.k:=fun he=>by simp[eZ,eu,he]at h
   have:eZ es k=false:=by simpa[eZ,eu,hne]using h
   simp[fZ,hne,lO es k v c this]
theorem zg:∀(es:List (iK κ ν))(k:κ)(v:ν)(c i j:Nat)(u:ν),lA es k j=some (i,u)->j<=i/\i-j<es.length/\((es.map (fe enc ev))[i-j]?).map (·.key)=some (enc k)/\
   (es.map (fe enc ev)).modify (i-j) (fun e=> {e with key:=enc k,val:=ev v})=(fZ es k v c).map (fe enc ev)
 |[],_,_,_,_,_,_,h=>by simp[lA]at h
 |e::es,k,v,c,i,j,u,h=>by
   by_cases hk:k=e.k
   · simp[lA,hk]at h
     obtain⟨rfl,rfl⟩:=h;simp[fZ,hk,fe]
   · simp only[lA,hk,if_false]at h
     obtain⟨h1,h2,h3,h4⟩:=zg es k v c i (j+1) u h;obtain⟨m,hm⟩:∃m,i-j=m+1:=⟨i-j-1,om⟩;have hm':i-(j+1)=m:=om;rw[hm']at h2 h3 h4;rw[hm];refine⟨om,by simpa using h2,by simpa using h3,?_⟩;simp only[Xt,List.modify_succ_cons,h4,fZ,hk,if_false]
theorem kH{m k x:Operand}{t r c:Nat}{E:TypeId}{es:List (iK κ ν)}{key:κ}{Hr:List SA}{K':Value->List SA->Prop}(v:ν)(hm:Sx.ev σ m= .map (some r))(hkey:Sx.ev σ k=enc key)(hx:Sx.ev σ x=ev v)[hk:Key P K enc]
   [hp:qC r H (cF enc ev es c) Hr](ht:P.underlying t=some (.map K E))(h:K' undef (aF r (cF enc ev (fZ es key v c) (gM es key c))::Hr)):Ef P w0 H σ ⟨d,.mapUpdate t m k x,ty,pos,aft,g⟩ K':=fun w hw=>by
 have hw':=hw.sub hp.sub;have hb:w.heap[r]? =some (cF enc ev es c):=hw'.holds (aF r _) sm;simp only[execOp,hm,hkey,hx,Instr.mapUpdate,Sem.run_bind,run_underlying ht,Result.andThen_ok,gE hb,hk.check,mo];cases hi:lA es key 0 with
 |none=>
   have hn:=(sQ es key 0).1 hi;simp only[Yt,nP hb,Result.andThen_ok,Sem.run_pure,upon];refine⟨_,h,?_⟩;have:cF enc ev (fZ es key v c) (gM es key c)= .map ((es.map (fe enc ev)).toArray.push {key:=enc key,val:=ev v,born:=c}) (c+1):=by
     simp[cF,lO es key v c hn,gM,hn,fe]
   rw[this];exact ahJ
 |some p=>
   obtain⟨i,u⟩:=p;obtain⟨-,h2,h3,h4⟩:=zg (enc:=enc) (ev:=ev) es key v c i 0 u hi;simp only[Nat.sub_zero]at h2 h3 h4;have hs:eZ es key=true:=by
     cases hh:eZ es key
     · rw[(sQ es key 0).2 hh]at hi;cases hi
     · rfl
   have hkeep:(Instr.keyThatStays ((((es.map (fe enc ev)).toArray[i]?).map (·.key)).getD (enc key)) (enc key)).run P w= .ok (enc key) w:=by
     have:((((es.map (fe enc ev)).toArray[i]?).map (·.key)).getD (enc key))=enc key:=by
       rw[YI,h3];rfl
     rw[this];simp[Instr.keyThatStays,hk.same]
   simp only[XK,Sem.run_bind,hkeep,Result.andThen_ok,nP hb,Sem.run_pure,upon];refine⟨_,h,?_⟩;have:cF enc ev (fZ es key v c) (gM es key c)= .map ((es.map (fe enc ev)).toArray.modify i fun e=> {e with key:=enc key,val:=ev v}) c:=by
     simp only[cF,gM,hs,cond_true,←h4];simp
   rw[this];exact ahJ
theorem xH:∀(es:List (iK κ ν))(k:κ),eZ es k=false->ji es k=es
 |[],_,_=>rfl
 |e::es,k,h=>by
   have hne:¬k=e.k:=fun he=>by simp[eZ,eu,he]at h
   have:eZ es k=false:=by simpa[eZ,eu,hne]using h
   simp[ji,hne,xH es k this]
theorem yy:∀(es:List (iK κ ν))(k:κ)(i j:Nat)(u:ν),lA es k j=some (i,u)->j<=i/\i-j<es.length/\(es.map (fe enc ev)).eraseIdx (i-j)=(ji es k).map (fe enc ev)
 |[],_,_,_,_,h=>by simp[lA]at h
 |e::es,k,i,j,u,h=>by
   by_cases hk:k=e.k
   · simp[lA,hk]at h
     obtain⟨rfl,rfl⟩:=h;simp[ji,hk]
   · simp only[lA,hk,if_false]at h
     obtain⟨h1,h2,h3⟩:=yy es k i (j+1) u h;obtain⟨m,hm⟩:∃m,i-j=m+1:=⟨i-j-1,om⟩;have hm':i-(j+1)=m:=om;rw[hm']at h2 h3;rw[hm];exact⟨om,by simpa using h2,by simp[ji,hk,h3]⟩
theorem tq{m k:Operand}{t u r c:Nat}{E:TypeId}{es:List (iK κ ν)}{key:κ}{Hr:List SA}{K':Value->List SA->Prop}(hm:Sx.ev σ m= .map (some r))(hkey:Sx.ev σ k=enc key)[hk:Key P K enc]
   [hp:qC r H (cF enc ev es c) Hr](ht:P.underlying t=some (.map K E))(h:K' (.tuple #[]) (aF r (cF enc ev (ji es key) c)::Hr)):Ef P w0 H σ ⟨d,.call ⟨.builtin .delete,#[m,k],#[t,u]⟩,ty,pos,aft,g⟩ K':=fun w hw=>by
 have hw':=hw.sub hp.sub;have hb:w.heap[r]? =some (cF enc ev es c):=hw'.holds (aF r _) sm;simp only[execOp,resolve,Y6,Xt,X6,invoke,builtin,Builtin.delete_,hm,hkey,YI,List.getElem?_cons_zero,List.getElem?_cons_succ,Sem.run_bind,Sem.run_pure,run_underlying ht,Result.andThen_ok,gE hb,hk.check,mo];cases hi:lA es key 0 with
 |none=>
   have hn:=(sQ es key 0).1 hi;simp only[Yt,Sem.run_bind,nP hb,Result.andThen_ok,Sem.run_pure,upon];refine⟨_,h,?_⟩;rw[xH es key hn];exact ahJ
 |some p=>
   obtain⟨i,u'⟩:=p;obtain⟨-,h2,h3⟩:=yy (enc:=enc) (ev:=ev) es key i 0 u' hi;simp only[Nat.sub_zero]at h2 h3;simp only[XK,Sem.run_bind,nP hb,Result.andThen_ok,Sem.run_pure,upon];refine⟨_,h,?_⟩;have:cF enc ev (ji es key) c= .map ((es.map (fe enc ev)).toArray.eraseIdxIfInBounds i) c:=by
     simp only[cF,←h3,Array.eraseIdxIfInBounds];rw[dif_pos (by simpa using h2)];simp
   rw[this];exact ahJ
omit [DecidableEq κ] in
theorem Bb{x:Operand}{t r c:Nat}{K E:TypeId}{es:List (iK κ ν)}{K':Value->List SA->Prop}(hx:Sx.ev σ x= .map (some r))[hm:Mem w0 H r (cF enc ev es c)](ht:P.underlying t=some (.map K E))
   (h:∀it,K' (.pointer (some ⟨it,0,none⟩)) (aF it (.mapIter (some r) c #[] c)::H)):Ef P w0 H σ ⟨d,.range t x,ty,pos,aft,g⟩ K':=fun w hw=>by
 simp only[execOp,hx,Instr.range,Sem.run_bind,run_underlying ht,Result.andThen_ok,gE (hm.get w hw),Sem.run_pure,run_newObj,upon];exact ad8
def fE(es:List (iK κ ν))(seen:Array Nat):List (iK κ ν):=es.filter fun e=> !seen.contains e.b
theorem my{w:World}{r:Nat}{m:Option Nat}{since last:Nat}{seen:Array Nat}(h:w.heap[r]? =some (.mapIter m since seen last)):(getObj r).run P w= .ok (.mapIter m since seen last) w:=by
 simp[getObj,Sem.run,h]
theorem tF{w:World}{r:Nat}{m:Option Nat}{since last:Nat}{seen:Array Nat}(h:w.heap[r]? =some (.mapIter m since seen last))(o:Obj):(setObj r o).run P w= .ok () {w with heap:=w.heap.setIfInBounds r o}:=by
 simp[setObj,Sem.run,h]
theorem St.drawn{w:World}{H:List SA}(h:St w0 H w)(n:Nat):St w0 H {w with drawn:=n}:=
 ⟨⟨h.below.os,h.below.tape,h.below.output,h.below.size,h.below.block⟩,h.nodup,fun x hx=>x.MH w _ (fun _ _=>rfl) (h.holds x hx),h.lo⟩
omit [DecidableEq κ] in
theorem E8{x:Operand}{it r since last c:Nat}{seen:Array Nat}{es:List (iK κ ν)}{Hr:List SA}{K':Value->List SA->Prop}(hx:Sx.ev σ x= .pointer (some ⟨it,0,none⟩))[hp:qC it H (.mapIter (some r) since seen last) Hr][hm:Mem w0 H r (cF enc ev es c)]
   (hs:∀e∈es,e.b<since)(hl:∀e∈es,e.b<last)(h0:fE es seen=[]->K' (.tuple #[.bool false]) (aF it (.mapIter (some r) since seen last)::Hr))
   (h1:∀e∈fE es seen,K' (.tuple #[.bool true,enc e.k,ev e.v]) (aF it (.mapIter (some r) since (seen.push e.b) c)::Hr)):Ef P w0 H σ ⟨d,.next x false,ty,pos,aft,g⟩ K':=fun w hw=>by
 have hw':=hw.sub hp.sub;have hb:w.heap[it]? =some (.mapIter (some r) since seen last):=hw'.holds (aF it _) sm;have hmr:=hm.get w hw;simp only[execOp,hx,Instr.next,Sem.run_bind,my hb,Result.andThen_ok,gE hmr];have hall:(!seen.isEmpty&& !(es.map (fe enc ev)).toArray.isEmpty&&(es.map (fe enc ev)).toArray.all fun x=>decide (x.born≥last))=false:=by
   cases es with
   |nil=>simp
   |cons e es=>
     have:=hl e sm;have hne:¬(e.b≥last):=om;simp[fe,hne]
 rw[hall];simp only[Xm,if_false,Sem.run_bind,Sem.run_pure,Result.andThen_ok];have hleft:(Array.filter (fun e:MapEntry=> !seen.contains e.born) (es.map (fe enc ev)).toArray)=((fE es seen).map (fe enc ev)).toArray:=by
   rw[YE];simp only[fE]
   congr 1
   rw[List.filter_map];rfl
 have hold:(Array.filter (fun e:MapEntry=>decide (e.born<since)) ((fE es seen).map (fe enc ev)).toArray)=((fE es seen).map (fe enc ev)).toArray:=by
   rw[YE]
   congr 1
   rw[List.filter_eq_self];intro a ha;obtain⟨e,he,rfl⟩:=Xd.1 ha;have:=hs e (Yg.1 he).1;exact decide_eq_true this
 have hnew:(Array.filter (fun e:MapEntry=>decide (e.born≥since)) ((fE es seen).map (fe enc ev)).toArray)= #[]:=by
   rw[YE]
   congr 1
   rw[List.filter_eq_nil_iff];intro a ha;obtain⟨e,he,rfl⟩:=Xd.1 ha;have:=hs e (Yg.1 he).1;simpa[fe]using this
 rw[hleft,hold,hnew];cases hlf:fE es seen with
 |nil=>
   have hch:(choose (.mapNext 1)).run P w= .ok 0 w:=by simp[run_choose,Question.forced]
   simp only[X6,Array.append_empty,Y6,Array.isEmpty];simp[hch,Question.forced,upon];exact⟨_,h0 hlf,hw'⟩
 |cons e0 l0=>
   have hn:((((e0::l0).map (fe enc ev)).toArray++ #[]).map some).size=(e0::l0).length:=sm;have hne:(((e0::l0).map (fe enc ev)).toArray).isEmpty=false:=sm;simp only[hne,Xm,if_false,Array.empty_append];have hchoose:∃i w',(choose (.mapNext ((((e0::l0).map (fe enc ev)).toArray++ #[]).map some).size)).run P w= .ok i w'/\i<(e0::l0).length/\∃m,w'= {w with drawn:=m}:=by
     rw[hn,run_choose]
     split
     · exact⟨0,w,rfl,sm,w.drawn,rfl⟩
     · refine⟨_,_,rfl,?_,_,rfl⟩
       simp only[Question.cut];exact YZ _ sm
   obtain⟨i,w',hc,hi,m,hw2⟩:=hchoose;obtain⟨e,he⟩:∃e,(e0::l0)[i]? =some e:=⟨_,WW hi⟩;have hcand:((((e0::l0).map (fe enc ev)).toArray++ #[]).map some)[i]? =some (some (fe enc ev e)):=by
     rw[Array.append_empty,Array.getElem?_map,YI,XZ,he];rfl
   have hb':w'.heap[it]? =some (.mapIter (some r) since seen last):=by rw[hw2];exact hb
   simp only[hc,Result.andThen_ok,hcand,Sem.run_bind,tF hb',Sem.run_pure,upon];refine⟨_,h1 e (by rw[hlf];exact List.mem_of_getElem? he),?_⟩;subst hw2;exact(hw'.drawn m).setObj
omit [DecidableEq κ] in
theorem Be{x:Operand}{it r since c:Nat}{seen:Array Nat}{es:List (iK κ ν)}(e:iK κ ν)(hx:Sx.ev σ x= .pointer (some ⟨it,0,none⟩))[hi:Mem w0 H it (.mapIter (some r) since (seen.push e.b) c)][hm:Mem w0 H r (cF enc ev es c)]
   (he:e∈es)(hn:(es.map (·.b)).Nodup):Qt P w0 H σ ⟨d,.entry x,ty,pos,aft,g⟩ (.tuple #[enc e.k,ev e.v]):=fun w hw=>by
 have hfind:((es.map (fe enc ev)).toArray.find? fun y=>y.born==e.b)=some (fe enc ev e):=by
   rw[List.find?_toArray,List.find?_map];have:es.find? ((fun y:MapEntry=>y.born==e.b)∘fe enc ev)=some e:=by
     clear hm
     induction es with
     |nil=>cases he
     |cons a l ih=>
       simp only[Xt,YB]at hn;rcases Xg.1 he with rfl|he
       · simp[fe]
       · have hne:¬a.b=e.b:=fun h=>hn.1 (h▸Xd.2 ⟨e,he,rfl⟩)
         simp only[YM,Function.comp,fe];have:(a.b==e.b)=false:=by simpa using hne
         rw[this];exact ih he hn.2
   rw[this];rfl
 simp only[execOp,hx,Instr.entry,Sem.run_bind,my (hi.get w hw),Result.andThen_ok,gE (hm.get w hw),Array.back?_push];simp only[bne_self_eq_false,Xm,if_false,Sem.run_bind,Sem.run_pure,Result.andThen_ok,hfind];rfl
end
end Go.Sx
namespace Go.Sx
theorem BI(d:TypeDesc)(x y:Array Value):Instr.sameNow d (.agg x) (.agg y)=none:=by cases d<;>rfl
end Go.Sx
end
section
namespace Go.Sx
open Go.RowKit
class Pc(P:Program)(t:TypeId)(k:outParam IntKind):Prop where ok:P.underlying t=some (.int k)
class Oj(P:Program)(t:TypeId):Prop where ok:P.underlying t=some .bool
class MU(P:Program)(t:TypeId):Prop where ok:P.underlying t=some .string
class Og(P:Program)(t:TypeId)(n:outParam Nat):Prop where ok:(match P.underlying t with|some (.array m e)=>m==n&&Lw P e&&(match P.underlying e with|some (.int .u8)=>true|_=>false)|_=>false)=true
class M6(P:Program)(t:TypeId)(x y:Value)(b:outParam Bool):Prop where eq:∀(d:Nat)(w:World),(Op.equalIn (d+2) t x y).run P w= .ok b w
class KA(P:Program)(t:TypeId)(x y:Value)(b:outParam Bool):Prop where eq:∀(d:Nat)(w:World),(Op.equalIn (d+4) t x y).run P w= .ok b w
section
variable {P:Program} {t:TypeId}
instance {x y:Value}{b:Bool}[h:M6 P t x y b]:KA P t x y b:=⟨fun d w=>h.eq (d+2) w⟩
instance {k:IntKind}{a b:Int}[h:Pc P t k]:M6 P t (.int k a) (.int k b) (decide (a=b)):=⟨fun d w=>by
 rw[run_equalIn_int w (d+1) t k k a b h.ok];congr 1⟩
instance {a b:Bool}[h:Oj P t]:M6 P t (.bool a) (.bool b) (decide (a=b)):=⟨fun d w=>by
 rw[run_equalIn_bool' w (d+1) t a b h.ok];congr 1⟩
instance {a b:ByteArray}[h:MU P t]:M6 P t (.string a) (.string b) (decide (a=b)):=⟨fun d w=>by
 rw[run_equalIn_string w (d+1) t a b h.ok,←beq_toListBytes];congr 1;rw[W5];obtain⟨a⟩:=a;obtain⟨b⟩:=b;show(a==b)=true↔_;simp⟩
theorem qy{cs:Array Value}{off:Nat}{v:Value}[h1:nT P t][hc:aw cs off v](w:World):(part t cs off).run P w= .ok v w:=by
 obtain⟨dd,ii,hd1,hd2,-⟩:=h1.spec;simp only[part,Sem.run_bind,jv hd1,hd2,Result.andThen_ok,Xm,if_false,hc.ok,Sem.run_pure]
theorem rV{cs sub:Array Value}{off n:Nat}[h1:oI P t n][hc:dh cs off n sub](w:World):(part t cs off).run P w= .ok (.agg sub) w:=by
 obtain⟨dd,ii,hd1,hd2,hi,hs⟩:=h1.spec;simp only[part,Sem.run_bind,jv hd1,hd2,Result.andThen_ok,if_true,cC hi,hs,hc.ok,Sem.run_pure]
theorem yx{n:Nat}(h:Vector UInt8 n)(j:Nat)(hj:j<n):(aX h)[j]? =some (jM h[j]):=by
 simp[aX,aE,hj]
theorem Jm(a b:UInt8):((a.toNat:Int)==(b.toNat:Int))=decide (a=b):=by
 rw[W5];simp only[beq_iff_eq,decide_eq_true_eq,←YN];omega
theorem qm{e n d:Nat}(h1:Lw P e=true)(h2:P.underlying e=some (.int .u8))(x y:Vector UInt8 n)(w:World):∀is:List Nat,(∀j∈is,j<n)->
   (Op.eqItems (d+1) e 1 (aX x).toArray (aX y).toArray is).run P w= .ok (decide (∀j∈is,x[j]? =y[j]?)) w
 |[],_=>by simp[Op.eqItems]
 |j::is,hj=>by
   have hjn:=hj j sm;have ht1:nT P e:=⟨h1⟩;have cx:aw (aX x).toArray (j*1) (jM x[j]):=⟨by simpa using yx x j hjn⟩;have cy:aw (aX y).toArray (j*1) (jM y[j]):=⟨by simpa using yx y j hjn⟩;simp only[Op.eqItems,Sem.run_bind,qy,Result.andThen_ok];rw[show(Op.equalIn (d+1) e (jM x[j]) (jM y[j])).run P w= .ok (decide (x[j]=y[j])) w from by rw[jM,jM,run_equalIn_int w d e .u8 .u8 _ _ h2,Jm]];simp only[Result.andThen_ok];by_cases he:x[j]=y[j]
   · simp only[he,decide_true,Bool.not_true,Xm,if_false]
     rw[qm h1 h2 x y w is (fun i hi=>hj i (by simp[hi]))]
     congr 1
     simp[hjn,he]
   · simp[he,hjn]
instance {n:Nat}{x y:Vector UInt8 n}[h:Og P t n]:M6 P t (.agg (aX x).toArray) (.agg (aX y).toArray) (decide (x=y)):=⟨fun d w=>by
 have hok:=h.ok
 split at hok
 · rename_i m e hu
   simp only[Xz,beq_iff_eq]at hok;obtain⟨⟨rfl,h1⟩,h2⟩:=hok
   split at h2
   · rename_i hu8
     have ht1:nT P e:=⟨h1⟩;obtain⟨dd,ii,hd1,hd2,hi,hs⟩:=ht1.spec;rw[run_equalIn_array w (d+1) _ _ hu hi];have hc:P.cellsOf e=1:=by simp[Program.cellsOf,hi,hs]
     rw[hc,qm h1 hu8 x y w (List.range m) (fun j hj=>YK.1 hj)]
     congr 1
     rw[decide_eq_decide]
     constructor
     · intro hh
       apply Yv;intro i hi;have:=hh i (YK.2 hi);simpa[hi]using this
     · rintro rfl j _;rfl
   · cases h2
 · cases hok⟩
end
section
variable {P:Program} {w0:World} {σ:Env} {H:List SA} {d:Option Nat} {ty:TypeId} {pos:String} {aft:Array Edge} {g:Option (Nat×Bool)}
theorem AO{t:TypeId}{x y:Value}{b:Bool}[h:M6 P t x y b](d:Nat)(w:World):(Op.equalIn (d+3) t x y).run P w= .ok b w:=h.eq (d+1) w
theorem mP{t:TypeId}{x y:Value}{b:Bool}[h:KA P t x y b](w:World):(Op.equal t x y).run P w= .ok b w:=h.eq 9996 w
theorem j1{x y:Operand}{t t':TypeId}{xs ys:Array Value}{b:Bool}(hx:ev σ x= .agg xs)(hy:ev σ y= .agg ys)[h:KA P t (.agg xs) (.agg ys) b](hg:P.eqGuardType P.depth t=false):Qt P w0 H σ ⟨d,.binOp .eql t x y t',ty,pos,aft,g⟩ (.bool b):=fun w _=>by
 have h2:(binOp .eql t (.agg xs) (.agg ys))=(do pure (.bool (←Op.equal t (.agg xs) (.agg ys)))):=by rfl
 simp only[execOp,hx,hy,Sem.run_bind,run_eqGuard_agg w .eql t x y xs ys hg,h2,Result.andThen_ok,mP,Sem.run_pure]
theorem mi{x y:Operand}{t t':TypeId}{xs ys:Array Value}{b:Bool}(hx:ev σ x= .agg xs)(hy:ev σ y= .agg ys)[h:KA P t (.agg xs) (.agg ys) b](hg:P.eqGuardType P.depth t=false):Qt P w0 H σ ⟨d,.binOp .neq t x y t',ty,pos,aft,g⟩ (.bool (!b)):=fun w _=>by
 have h2:(binOp .neq t (.agg xs) (.agg ys))=(do pure (.bool (!(←Op.equal t (.agg xs) (.agg ys))))):=by rfl
 simp only[execOp,hx,hy,Sem.run_bind,run_eqGuard_agg w .neq t x y xs ys hg,h2,Result.andThen_ok,mP,Sem.run_pure]
class HO(v:Value)(n:outParam Nat):Prop where ok:v.cells.size=n
instance (priority:=low){v:Value}[h:One v]:HO v 1:=⟨by rw[cells_one h.ok];rfl⟩
instance {cs:Array Value}{n:Nat}[h:Cells cs n]:HO (.agg cs) n:=⟨h.size⟩
def AM(P:Program)(s f off size:Nat):Bool:=match P.underlying s with
 |some (.struct fs)=>match fs[f]? with
   |some fd=>fd.offset==off&&(match P.info? fd.type with|some i=>i.size==size|none=>false)
   |none=>false
 |_=>false
class gm(P:Program)(s f:Nat)(off size:outParam Nat):Prop where ok:AM P s f off size=true
class Lm(P:Program)(s:Nat)(cs:Array Value)(parts:List (Nat×Value))(cs':outParam (Array Value)):Prop where
 ok:∀place:Nat->Option (Nat×Nat),(∀f off size,AM P s f off size=true->place f=some (off,size))->Instr.fill place cs parts=some cs'
instance {s:Nat}{cs:Array Value}:Lm P s cs [] cs:=⟨fun _ _=>rfl⟩
instance {s f off n:Nat}{cs cs1 cs':Array Value}{v:Value}{rest:List (Nat×Value)}[h1:gm P s f off n][h2:HO v n][h3:bD cs off v cs1][h4:Lm P s cs1 rest cs']:Lm P s cs ((f,v)::rest) cs':=⟨fun place hp=>by
 have hpl:=hp f off n h1.ok;simp only[Instr.fill,hpl];have hroom:=h3.room;rw[if_neg (by simp only[h2.ok,ne_eq,not_true_eq_false,decide_false,Bool.false_or,decide_eq_true_eq];rw[h2.ok]at hroom;omega)];have:=h3.ok;unfold putCells at this;rw[this];exact h4.ok place hp⟩
theorem qB{α β:Type}(f:α->Sem β)(g:α->β)(w:World):∀l:List α,(∀x∈l,(f x).run P w= .ok (g x) w)->(l.mapM f).run P w= .ok (l.map g) w
 |[],_=>rfl
 |x::l,h=>by
   rw[List.mapM_cons];simp only[Sem.run_bind,h x sm,Result.andThen_ok,qB f g w l (fun y hy=>h y (by simp[hy])),Sem.run_pure,Xt]
def tQ(P:Program)(s:Nat):Bool:=match P.underlying s with
 |some (.struct fs)=>fs.toList.all fun f=>(P.info? f.type).isSome
 |_=>false
theorem aA{t:TypeId}{parts:Array (Nat×Operand)}(pv:List (Nat×Value)){z cs:Array Value}(hp:parts.toList.map (fun p=>(p.1,ev σ p.2))=pv)[hz:lT P t (.agg z)][hf:Lm P t z pv cs](hs:tQ P t=true):Qt P w0 H σ ⟨d,.build t parts,ty,pos,aft,g⟩ (.agg cs):=fun w _=>by
 unfold tQ at hs
 split at hs
 · rename_i fs hu
   have hm:(fs.mapM fun f=>do pure (f.offset,←sizeOf f.type):Sem (Array (Nat×Nat))).run P w= .ok (fs.map fun f=>(f.offset,P.cellsOf f.type)) w:=by
     obtain⟨l⟩:=fs;rw[List.mapM_toArray];simp only[Sem.run_map];have:=qB (P:=P) (fun f:Field=>(do pure (f.offset,←sizeOf f.type):Sem (Nat×Nat))) (fun f=>(f.offset,P.cellsOf f.type)) w l (fun x hx=>by
       simp only[Yc]at hs;obtain⟨i,hi⟩:=XH.1 (hs x aev);simp only[Sem.run_bind,cC hi,Result.andThen_ok,Sem.run_pure,Program.cellsOf,hi,XK,Option.getD_some])
     rw[this];simp
   have hfill:=hf.ok (fun i=>(fs.map fun f=>(f.offset,P.cellsOf f.type))[i]?) (fun f off size hfs=>by
     unfold AM at hfs;rw[hu]at hfs;simp only at hfs
     split at hfs
     · rename_i fd hfd
       simp only[Xz,beq_iff_eq]at hfs;obtain⟨e1,e2⟩:=hfs
       split at e2
       · rename_i i hi
         simp only[beq_iff_eq]at e2;simp[hfd,e1,Program.cellsOf,hi,e2]
       · cases e2
     · cases hfs)
   have hpl:(parts.map fun(i,x)=>(i,ev σ x)).toList=pv:=by rw[←hp];simp
   simp only[execOp,Instr.build,Sem.run_bind,fK hz.ok,Result.andThen_ok,run_underlying hu,hm,hpl,Value.cells,hfill,Sem.run_pure]
 · cases hs
theorem ck{t e n:Nat}{parts:Array (Nat×Operand)}{z:Array Value}(cs:Array Value)[hz:lT P t (.agg z)](hu:P.underlying t=some (.array n e)){sz:Nat}{i:TypeInfo}(hi:P.info? e=some i)(hsz:i.size=sz)
   (hf:Instr.fill (fun i=>some (i*sz,sz)) z (parts.toList.map fun p=>(p.1,ev σ p.2))=some cs):Qt P w0 H σ ⟨d,.build t parts,ty,pos,aft,g⟩ (.agg cs):=fun w _=>by
 subst hsz;have hpl:(parts.map fun(i,x)=>(i,ev σ x)).toList=parts.toList.map fun p=>(p.1,ev σ p.2):=sm;simp only[execOp,Instr.build,Sem.run_bind,fK hz.ok,Result.andThen_ok,run_underlying hu,cC hi,hpl,Value.cells,hf,Sem.run_pure]
theorem dq{x i:Operand}{t e n:Nat}{cs:Array Value}{k:IntKind}{j:Int}(v:Value)(hx:ev σ x= .agg cs)(hi:ev σ i= .int k j)(hu:P.underlying t=some (.array n e))[h1:nT P e](h0:0<=j)(hn:j<n)(hv:cs[j.toNat]? =some v):Qt P w0 H σ ⟨d,.index t x i,ty,pos,aft,g⟩ v:=fun w _=>by
 obtain⟨dd,ii,hd1,hd2,hi',hs⟩:=h1.spec;have hc:aw cs (j.toNat*1) v:=⟨by simpa using hv⟩;simp only[execOp,hx,hi,Instr.index,asIntOf,Sem.run_bind,Sem.run_pure,Result.andThen_ok,run_underlying hu,h0,hn,and_self,if_true,cC hi',hs,qy]
theorem rf{x:Operand}{t e n b o:Nat}{i:TypeInfo}(hx:ev σ x= .pointer (some ⟨b,o,none⟩))(hu:P.underlying t=some (.array n e))(hi:P.info? e=some i)(hn:Nat.blt 0 n=true):Qt P w0 H σ ⟨d,.slice t x none none none,ty,pos,aft,g⟩ (.slice (some ⟨b,o,none⟩) n n):=fun w _=>by
 have h0:n≠0:=by simp only[XO]at hn;omega
 simp only[execOp,hx,Yt,Instr.sliceAt,Sem.run_bind,run_underlying hu,Result.andThen_ok,Instr.sureAddr,Sem.run_pure,Instr.sliceBounds,cC hi,h0,if_false,Nat.zero_mul,Nat.sub_zero];simp[Addr.add]
end
theorem dT.hash{w0:World}{H:List SA}{b o n:Nat}{cs:Array Value}{T:TypeId}{fz:Nat×Nat}(x:Vector UInt8 n)(hm:Mem w0 H b (.cells cs T fz))(hc:dh cs o n (aX x).toArray)(hn:n<=1000):dT w0 H (.slice (some ⟨b,o,none⟩) n n) x.toList:=
 ⟨fun w hw=>⟨_,_,_,rfl,by simp[aE],W8 _,by unfold maxLen;omega,fun _=>⟨b,o,rfl,fun j u hj=>by
   rw[di (hm.get w hw)];have h1:(cs.extract o (o+n))[j]? =some u:=by rw[hc.ok];simpa[aX]using hj
   rw[Array.getElem?_extract]at h1
   split at h1
   · exact h1
   · cases h1⟩⟩⟩
end Go.Sx
namespace Go.Sx
open Go.RowKit
def ko:Value->Nat->Option Addr
 | .slice (some a) _ _,j=>some (a.add j)
 |_,_=>none
attribute [irreducible] ko
instance (priority:=high) dT.B4{w0:World}{H:List SA}:dT w0 H (.slice none ([]:List UInt8).length 0) []:=⟨fun w _=>pH w 1⟩
section
variable {P:Program} {w0:World} {σ:Env} {H:List SA} {d:Option Nat} {ty:TypeId} {pos:String} {aft:Array Edge} {g:Option (Nat×Bool)}
theorem bj{x i:Operand}{t e bytes n c:Nat}{a:Option Addr}{k:IntKind}{j:Int}{xs:List Value}(hx:ev σ x= .slice a n c)(hi:ev σ i= .int k j)[hr:gy w0 H (.slice a n c) 1 xs][ht:jg P t e 1 bytes](h0:0<=j)(hn:j<xs.length):Qt P w0 H σ ⟨d,.indexAddr t x i,ty,pos,aft,g⟩ (.pointer (ko (.slice a n c) j.toNat)):=fun w hw=>by
 obtain⟨a',n',c',hv,hl,hn',hc',hcell⟩:=hr.rd w hw;obtain⟨rfl,rfl,rfl⟩:a'=a/\n'=n/\c'=c:=abQ;obtain⟨b,o,rfl,-⟩:=hcell om;obtain⟨ii,z,hi',-,hsz,-,-⟩:=ht.spec;have hjn:j<(n':Int):=by rw[Yp]at hl;omega
 simp only[execOp,hx,hi,Instr.indexAt,asIntOf,Sem.run_bind,Sem.run_pure,Result.andThen_ok,run_underlying ht.ht,h0,hjn,and_self,if_true,cC hi',hsz,Yp,ko]
theorem bC{x:Operand}{t n c j:Nat}{a:Option Addr}{xs:List Value}(v:Value)(hx:ev σ x= .pointer (ko (.slice a n c) j))[hr:gy w0 H (.slice a n c) 1 xs][h1:nT P t](hv:xs[j]? =some v):Qt P w0 H σ ⟨d,.load t x,ty,pos,aft,g⟩ v:=fun w hw=>by
 obtain⟨a',n',c',hv',hl,hn',hc',hcell⟩:=hr.rd w hw;obtain⟨rfl,rfl,rfl⟩:a'=a/\n'=n/\c'=c:=adX;have hlt:j<xs.length:=by
   rcases X7 j xs.length with h|h
   · exact h
   · simp[XT h]at hv
 obtain⟨b,o,rfl,hce⟩:=hcell om;have hp:ko (.slice (some ⟨b,o,none⟩) n' c') j=some ⟨b,o+j,none⟩:=by simp only[ko,fI]
 rw[hp]at hx;simp only[execOp,hx,Instr.loadAt,Instr.sureAddr,Sem.run_bind,Sem.run_pure,Result.andThen_ok,k8 h1 (hce j v hv)]
end
class ju(w0:World)(H:List SA)(ls:List BS):Prop where rd:∀x∈ls,∀w,St w0 H w->gN w x.val x.l
instance ju.tail{w0:World}{H:List SA}{x:SA}{ls:List BS}[h:ju w0 H ls]:ju w0 (x::H) ls:=⟨fun y hy w hw=>h.rd y hy w hw.tail⟩
instance (priority:=high) ju.nil{w0:World}{H:List SA}:ju w0 H []:=⟨fun _ h=>by cases h⟩
theorem ju.get{w0:World}{H:List SA}{ls:List BS}(h:ju w0 H ls){x:BS}(hx:x∈ls):dT w0 H (.slice x.a x.l.length x.c) x.l:=⟨h.rd x hx⟩
theorem fV(ls:List BS)(k:Nat)(hk:k<ls.length):(ls.map BS.val)[k]? =some (.slice ls[k].a ls[k].l.length ls[k].c):=by simp[hk]
theorem eO(l:List UInt8)(k:Nat)(hk:k<l.length):(aE l)[k]? =some (.int .u8 (l[k].toNat:Int)):=by simp[aE,jM,hk]
def k5(fp:List Nat)(w:World)(v:Value)(l:List UInt8):Prop:=
 ∃a n c,v= .slice a n c/\(aE l).length=n*1/\n<=c/\c<=maxLen/\(0<(aE l).length->∃b o,a=some ⟨b,o,none⟩/\b∈fp/\∀j u,(aE l)[j]? =some u->w.cell? ⟨b,o+j,none⟩=some u)
theorem k5.at{fp:List Nat}{w:World}{v:Value}{l:List UInt8}(h:k5 fp w v l):gN w v l:=by
 obtain⟨a,n,c,h1,h2,h3,h4,h5⟩:=h;exact ac6
theorem k5.gQ{fp fp':List Nat}{w w':World}{v:Value}{l:List UInt8}(h:k5 fp w v l)(hs:∀b∈fp,b∈fp')(hb:∀b∈fp,w'.heap[b]? =w.heap[b]?):k5 fp' w' v l:=by
 obtain⟨a,n,c,h1,h2,h3,h4,h5⟩:=h;refine⟨a,n,c,h1,h2,h3,h4,fun h0=>?_⟩;obtain⟨b,o,e1,e2,e3⟩:=h5 h0;refine⟨b,o,e1,hs b e2,fun j u hj=>?_⟩;rw[←e3 j u hj];simp only[World.cell?,hb b e2]
def ep(fp:List Nat)(ls:List BS):SA:=⟨fp,fun w=>∀x∈ls,k5 fp w x.val x.l,fun _ _ hb h x hx=>(h x hx).gQ (fun _ h=>h) hb⟩
instance ju.own{w0:World}{H:List SA}{fp:List Nat}{ls:List BS}:ju w0 (ep fp ls::H) ls:=⟨fun x hx w hw=>(hw.holds (ep fp ls) sm x hx).at⟩
theorem St.pO{w0 w:World}{H:List SA}(h:St w0 H w):St w0 (ep [] []::H) w:=
 h.fresh rfl rfl rfl (W8 _) (fun _ _=>rfl) (fun _ h=>by cases h) (by simp[ep]) (by simp[ep])
theorem qS.E3{v:Value}{e:TypeId}{l:List UInt8}{w:World}(h:qS v e 1 (aE l) w):k5 (bQ v) w v l:=by
 have hc:=h.cells;obtain⟨a,n,c,hv,hl,hn,hc',ha,hx⟩:=h;refine⟨a,n,c,hv,hl,hn,hc',fun h0=>?_⟩;have hc0:c≠0:=by
   rintro rfl;obtain rfl:n=0:=om;simp at hl;simp[hl]at h0
 obtain⟨g,cur,hg,hw,h1,h2⟩:=hx hc0;obtain⟨a',n',c',hv',-,-,-,hcell⟩:=hc;obtain⟨b,o,hb,hce⟩:=hcell h0;subst hv;subst hg;simp only[Value.slice.injEq]at hv';have hb2:(some (⟨g,0,none⟩:Addr))=some ⟨b,o,none⟩:=hv'.1.trans hb;simp only[Yq,Addr.mk.injEq]at hb2;refine⟨g,0,rfl,by simp[bQ,hc0],fun j u hj=>?_⟩;have:=hce j u hj;rw[←hb2.1,←hb2.2.1]at this;exact aeq
theorem St.merge{w0 w:World}{H:List SA}{x y z:SA}(h:St w0 (x::y::H) w)(hfp:z.fp=x.fp++y.fp)(hp:x.p w->y.p w->z.p w):St w0 (z::H) w:=by
 have hnd:=h.nodup;refine⟨h.below,?_,?_,?_⟩
 · simpa[hfp,W4]using hnd
 · intro a ha
   rcases Xg.1 ha with rfl|ha
   · exact hp (h.holds x sm) (h.holds y sm)
   · exact h.holds a (by simp[ha])
 · intro a ha b hb
   rcases Xg.1 ha with rfl|ha
   · rw[hfp]at hb
     rcases Xc.1 hb with hb|hb
     · exact h.lo x sm b hb
     · exact h.lo y sm b hb
   · exact h.lo a (by simp[ha]) b hb
theorem St.Ag{w0 w:World}{H:List SA}{fp:List Nat}{ls:List BS}{b:BS}{e:TypeId}(h:St w0 (row b.val e 1 (aE b.l)::ep fp ls::H) w):St w0 (ep (bQ b.val++fp) (ls++[b])::H) w:=by
 refine h.merge rfl fun h1 h2 x hx=>?_;rcases Xc.1 hx with hx|hx
 · exact(h2 x hx).gQ (fun b hb=>Xo _ hb) (fun _ _=>rfl)
 · obtain rfl:x=b:=by simpa using hx
   exact(qS.E3 (v:=x.val) (e:=e) h1).gQ (fun b hb=>Xx _ hb) (fun _ _=>rfl)
end Go.Sx
namespace Go.Sx
open Go.RowKit
section
variable {P:Program} {w0:World} {σ:Env} {H:List SA} {d:Option Nat} {ty:TypeId} {pos:String} {aft:Array Edge} {g:Option (Nat×Bool)}
theorem bn{x i:Operand}{t e sz bytes n c:Nat}{a:Option Addr}{k:IntKind}{j:Int}{xs:List Value}(hx:ev σ x= .slice a n c)(hi:ev σ i= .int k j)[ht:jg P t e sz bytes][hr:gy w0 H (.slice a n c) sz xs](h0:0<=j)(hn:j<n):Qt P w0 H σ ⟨d,.indexAddr t x i,ty,pos,aft,g⟩ (.pointer (ko (.slice a n c) (j.toNat*sz))):=fun w hw=>by
 obtain⟨a',n',c',hv,hl,hn',hc',hcell⟩:=hr.rd w hw;obtain⟨rfl,rfl,rfl⟩:a'=a/\n'=n/\c'=c:=abQ;have hpos:0<xs.length:=by rw[hl];exact Nat.mul_pos om ht.pos
 obtain⟨b,o,rfl,-⟩:=hcell hpos;obtain⟨ii,z,hi',-,hsz,-,-⟩:=ht.spec;simp only[execOp,hx,hi,Instr.indexAt,asIntOf,Sem.run_bind,Sem.run_pure,Result.andThen_ok,run_underlying ht.ht,h0,hn,and_self,if_true,cC hi',hsz,ko]
theorem ta{w:World}{a:Option Addr}{n c sz:Nat}{xs:List Value}(h:cY w (.slice a n c) sz xs)(hpos:0<xs.length)(j:Nat):∃b o,a=some ⟨b,o,none⟩/\ko (.slice a n c) j=some ⟨b,o+j,none⟩:=by
 obtain⟨a',n',c',hv,hl,hn',hc',hcell⟩:=h;obtain⟨rfl,rfl,rfl⟩:a'=a/\n'=n/\c'=c:=abQ;obtain⟨b,o,rfl,-⟩:=hcell hpos;exact⟨b,o,rfl,by simp only[ko,fI]⟩
theorem cm{x:Operand}{n c sz j s f off:Nat}{a:Option Addr}{xs:List Value}(hx:ev σ x= .pointer (ko (.slice a n c) j))(sz':Nat)[hr:gy w0 H (.slice a n c) sz' xs](hpos:0<xs.length)[hf:gv P s f off](hsz:sz=sz':=by rfl):Qt P w0 H σ ⟨d,.fieldAddr s x f,ty,pos,aft,g⟩ (.pointer (ko (.slice a n c) (j+off))):=fun w hw=>by
 obtain⟨b,o,-,hp⟩:=ta (hr.rd w hw) hpos j;obtain⟨b',o',h1,hp'⟩:=ta (hr.rd w hw) hpos (j+off);obtain⟨b'',o'',h2,hp''⟩:=ta (hr.rd w hw) hpos j;rw[hp]at hx;have:=kO (P:=P) (w0:=w0) (H:=H) (d:=d) (ty:=ty) (pos:=pos) (aft:=aft) (g:=g) (s:=s) (f:=f) (o+j+off) hx rfl w hw;rw[this,hp'];have e1:=h2.symm.trans h1;simp only[Yq,Addr.mk.injEq]at e1;rw[hp'']at hp;simp only[Yq,Addr.mk.injEq]at hp;rw[←e1.1,←e1.2.1,hp.1];have:o=o'':=om;subst this;rw[X9]
theorem cE{x:Operand}{t n c j:Nat}(sz:Nat){a:Option Addr}{xs:List Value}(v:Value)(hx:ev σ x= .pointer (ko (.slice a n c) j))[hr:gy w0 H (.slice a n c) sz xs][h1:nT P t](hv:xs[j]? =some v):Qt P w0 H σ ⟨d,.load t x,ty,pos,aft,g⟩ v:=fun w hw=>by
 obtain⟨a',n',c',hv',hl,hn',hc',hcell⟩:=hr.rd w hw;obtain⟨rfl,rfl,rfl⟩:a'=a/\n'=n/\c'=c:=adX;have hlt:j<xs.length:=by
   rcases X7 j xs.length with h|h
   · exact h
   · simp[XT h]at hv
 obtain⟨b,o,rfl,hce⟩:=hcell om;have hp:ko (.slice (some ⟨b,o,none⟩) n' c') j=some ⟨b,o+j,none⟩:=by simp only[ko,fI]
 rw[hp]at hx;simp only[execOp,hx,Instr.loadAt,Instr.sureAddr,Sem.run_bind,Sem.run_pure,Result.andThen_ok,k8 h1 (hce j v hv)]
theorem ek{x:Operand}{t n c j m:Nat}(sz:Nat){a:Option Addr}{xs:List Value}(l:List Value)(hx:ev σ x= .pointer (ko (.slice a n c) j))[hr:gy w0 H (.slice a n c) sz xs][h1:oI P t m](hv:(xs.drop j).take m=l)(hl:l.length=m)(hm:0<m):Qt P w0 H σ ⟨d,.load t x,ty,pos,aft,g⟩ (.agg l.toArray):=fun w hw=>by
 obtain⟨a',n',c',hv',hl',hn',hc',hcell⟩:=hr.rd w hw;obtain⟨rfl,rfl,rfl⟩:a'=a/\n'=n/\c'=c:=adX;have hlt:j+m<=xs.length:=by
   have:((xs.drop j).take m).length=m:=by rw[hv];exact hl
   simp at this;omega
 obtain⟨b,o,rfl,hce⟩:=hcell om;have hp:ko (.slice (some ⟨b,o,none⟩) n' c') j=some ⟨b,o+j,none⟩:=by simp only[ko,fI]
 rw[hp]at hx;obtain⟨dd,ii,hd1,hd2,hi,hs⟩:=h1.spec;have hld:=run_loadCells_list (P:=P) (w:=w) ⟨b,o+j,none⟩ l (fun i u hi=>by
   rw[fI];have:xs[j+i]? =some u:=by
     rw[←hv]at hi;rw[XR]at hi
     split at hi
     · simpa using hi
     · cases hi
   have:=hce (j+i) u this
   rwa [X9])
 rw[hl]at hld;simp only[execOp,hx,Instr.loadAt,Instr.sureAddr,Sem.run_bind,Sem.run_pure,Result.andThen_ok,loadVar,jv hd1,hd2,if_true,cC hi,hs,hld]
end
theorem iL{α:Type}(f:α->List Value)(m:Nat)(hf:∀x,(f x).length=m):∀(l:List α)(i j:Nat)(hi:i<l.length),j<m->(l.flatMap f)[i*m+j]? =(f l[i])[j]?
 |x::l,0,j,_,hj=>by simp[Xw,WY,hf,hj]
 |x::l,i+1,j,hi,hj=>by
   rw[Xw,List.getElem?_append_right (by rw[hf,XY];omega),hf];have:(i+1)*m+j-m=i*m+j:=by rw[XY];omega
   rw[this,iL f m hf l i j acq hj];simp
theorem de{α:Type}(f:α->List Value)(m:Nat)(hf:∀x,(f x).length=m):∀(l:List α)(i:Nat)(hi:i<l.length),((l.flatMap f).drop (i*m)).take m=f l[i]
 |x::l,0,_=>by simp[Xw,List.take_append,hf]
 |x::l,i+1,hi=>by
   rw[Xw,List.drop_append,hf];have h1:(f x).drop ((i+1)*m)=[]:=by rw[YL,hf,XY];omega
   have h2:(i+1)*m-m=i*m:=by rw[XY];omega
   rw[h1,h2,Xh,de f m hf l i acq];simp
theorem fy{α:Type}(f:α->List Value)(m:Nat)(hf:∀x,(f x).length=m)(l:List α):(l.flatMap f).length=l.length*m:=by
 induction l with
 |nil=>simp
 |cons x l ih=>simp[Xw,ih,hf,XY];omega
end Go.Sx
namespace Go.Sx
theorem ng{w0 w:World}{H:List SA}{fp:List Nat}{ls:List BS}{b:BS}{e:TypeId}{y:SA}(h:St w0 (y::row b.val e 1 (aE b.l)::ep fp ls::H) w):St w0 (y::ep (bQ b.val++fp) (ls++[b])::H) w:=by
 have h1:St w0 (row b.val e 1 (aE b.l)::ep fp ls::y::H) w:=h.sub ⟨_,(List.Perm.swap _ _ _).trans ((List.Perm.swap _ _ _).cons _),Y0 _⟩;have h2:=h1.Ag;exact h2.sub ⟨_,List.Perm.swap _ _ _,Y0 _⟩
theorem sI{α:Type}{w0:World}{e:Exit}{Q:iM}{σ:Env}{H:List SA}{H':α->List SA}(hs:∀w,St w0 H w->∃x,St w0 (H' x) w)(h:∀x,X w0 e Q σ (H' x)):X w0 e Q σ H:=fun w hw=>let ⟨x,hx⟩:=hs w hw;h x w hx
end Go.Sx
namespace Go.Sx
theorem ak{P:Program}{w0:World}{H:List SA}{t b o n u m:Nat}{cs sub:Array Value}{fz:Nat×Nat}[h1:oI P t n][hm:Mem w0 H b (.cells cs u fz)][hz:Cells cs m][hc:dh cs o n sub](hn:Nat.ble (o+n) m=true):∀w,St w0 H w->(loadVar t ⟨b,o,none⟩).run P w= .ok (.agg sub) w:=fun w hw=>by
 have:=qw h1 (hm.get w hw) (by rw[hz.size];exact XL hn);rw[hc.ok]at this;exact aeq
end Go.Sx
namespace Go.Sx
open Go.RowKit
def num:Nat->List Value->List (Nat×Value)
 |_,[]=>[]
 |i,v::vs=>(i,v)::num (i+1) vs
theorem qD(sz:Nat):∀(vs:List Value)(i:Nat)(pr po:List Value),(∀v∈vs,v.cells.size=sz)->pr.length=i*sz->po.length=vs.length*sz->
   Instr.fill (fun i=>some (i*sz,sz)) (pr++po).toArray (num i vs)=some (pr++vs.flatMap fun v=>v.cells.toList).toArray
 |[],i,pr,po,_,_,hpo=>by
   obtain rfl:po=[]:=Xr (by simpa using hpo);simp[num,Instr.fill]
 |v::vs,i,pr,po,hv,hpr,hpo=>by
   have hs:=hv v sm;have hpo':po.length=sz+vs.length*sz:=by rw[hpo,Xq,XY];omega
   rw[num,Instr.fill];simp only[hs,ne_eq,not_true_eq_false,false_or];rw[if_neg (by simp[hpr,hpo'])];have hput:=fN pr (po.take sz) (po.drop sz) (v:=v) (o:=i*sz) (n:=sz) hpr (by simp[hpo']) hs;have e1:pr++po=pr++(po.take sz++po.drop sz):=by rw[XC]
   unfold putCells at hput;rw[e1];refine(congrArg (fun c=>Instr.fill (fun i=>some (i*sz,sz)) c (num (i+1) vs)) hput).trans ?_;rw[←W4];have e2:pr++(v::vs).flatMap (fun v=>v.cells.toList)=(pr++v.cells.toList)++vs.flatMap (fun v=>v.cells.toList):=by simp[Xw,W4]
   rw[e2];exact qD sz vs (i+1) (pr++v.cells.toList) (po.drop sz) (fun u hu=>hv u (by simp[hu])) (by simp[hpr,hs,XY]) (by simp[hpo'])
section
variable {P:Program} {w0:World} {H:List SA} {σ:Env} {d:Option Nat} {ty:TypeId} {pos:String} {aft:Array Edge} {g:Option (Nat×Bool)} {K:Value->List SA->Prop}
theorem oO(sz:Nat):∀(vs:List Value),(∀v∈vs,v.cells.size=sz)->(vs.flatMap fun v=>v.cells.toList).length=vs.length*sz
 |[],_=>by simp
 |v::vs,hv=>by
   have:=oO sz vs (fun u hu=>hv u (by simp[hu]));have hs:=hv v sm;simp only[Xw,WX,this,Xq,Array.length_toList,hs,XY];omega
theorem cr{t e n m sz bytes:Nat}{parts:Array (Nat×Operand)}(vs:List Value)(xs:List Value)(hp:parts.toList.map (fun p=>(p.1,ev σ p.2))=num 0 vs)(hn:vs.length=n)(hm:m=n)(hxs:(vs.flatMap fun v=>v.cells.toList)=xs)(hv:∀v∈vs,v.cells.size=sz)
   [hts:jg P t e sz bytes](hb:Nat.ble (n*sz) 10000=true)(hsz0:Nat.ble 1 (n*sz)=true)(h:∀a c,K (.slice a m c) (row (.slice a m c) e sz xs::H)):Ef P w0 H σ ⟨d,.buildSlice t n parts,ty,pos,aft,g⟩ K:=fun w hw=>by
 obtain⟨i,z,hi,hz,hsz,-,hzs⟩:=hts.spec;have ht:=hts.ht;have hz':(P.info? e).bind (·.zero)=some z:=by simp[hi,hz]
 have hb':=XL hb;have hs0:=XL hsz0;have hpl:(parts.map fun p=>(p.1,ev σ p.2)).toList=num 0 vs:=by rw[Array.toList_map];exact hp
 have hr:(execOp (ev σ) ⟨d,.buildSlice t n parts,ty,pos,aft,g⟩).run P w= .ok (.value (.slice (some ⟨w.heap.size,0,none⟩) n n)) (w.alloc (.cells xs.toArray e)):=by
   have hf:=qD sz vs 0 [] ((List.range (n*sz)).map fun k=>z.cells[k%z.cells.size]!) hv sm (by simp[hn]);have e0:((Array.range (n*sz)).map fun k=>z.cells[k%z.cells.size]!)=([]++(List.range (n*sz)).map fun k=>z.cells[k%z.cells.size]!).toArray:=by
     apply XX
     · simp
     · intro j h1 h2;simp
   rw[hxs]at hf;simp only[Xh]at hf e0;have hbig:¬n*sz>2^24:=om;have hne:¬n*sz=0:=om;have hexec:execOp (ev σ) ⟨d,.buildSlice t n parts,ty,pos,aft,g⟩=(do let v ←Instr.buildSlice t n (parts.map fun p=>(p.1,ev σ p.2));pure (.value v)):=by
     simp[execOp]
   rw[hexec];simp only[Instr.buildSlice,Sem.run_bind,run_underlying ht,Result.andThen_ok,cC hi,hsz,if_neg hbig,if_neg hne,Sem.run_pure,fK hz',hpl,e0,hf,newRow,run_newObj,World.alloc_eq]
 rw[hr];subst hm;have hlen:xs.length=m*sz:=by rw[←hxs,oO sz vs hv,hn]
 refine⟨_,h _ _,hw.fresh rfl rfl rfl sm (fun k hk=>heap_alloc_old w _ hk) ⟨_,_,_,rfl,hlen,W8 _,by unfold maxLen;have:m<=m*sz:=Nat.le_mul_of_pos_right m (by rcases YH sz with h|h;subst h;omega;exact h);omega,sm,fun _=>⟨_,_,rfl,heap_alloc_new w _,by simp[hlen],by simp[←hlen]⟩⟩ (by simp only[row,bQ];split<;>simp) (by simp only[row,bQ];split<;>simp)⟩
end
end Go.Sx
end
section
namespace Go.Sx
open Go.RowKit Go.ChangeShapes Go.WideShapes
class Ca(P:Program)(t:TypeId)(α:outParam Type)(enc:outParam (α->List Value))(Rd:outParam (World->α->Prop)):Prop where
 ok:∀ {H:Type}(en:TypeId×Value->H)(w:World)(sp:Nat->Bool)(fuel:Nat)(cs:List Value)(x:DataW H×List MemPlace),DataW.trod en P w 0 sp true fuel t cs=some x->∃y:α,cs=enc y/\Rd w y
theorem gp{P:Program}{t:TypeId}{k:IntKind}(ht:P.underlying t=some (.int k)):Ca P t Int (fun n=>[.int k n]) (fun _ n=>(Lit.int k n).wf=true):=
 ⟨fun _ _ _ _ _ _ h=>let ⟨n,hc,_,hw⟩:=DataW.trod_int ht h;⟨n,hc,hw⟩⟩
theorem wf_u8{n:Int}(h:(Lit.int .u8 n).wf=true):0<=n/\n<256:=by
 simp[Lit.wf,IntKind.min,IntKind.max,IntKind.signed,IntKind.bits]at h;exact⟨om,om⟩
theorem H5{P:Program}{t:TypeId}(ht:P.underlying t=some (.int .u8)):Ca P t UInt8 (fun b=>[jM b]) (fun _ _=>True):=
 ⟨fun _ _ _ _ _ _ h=>by
   obtain⟨n,hc,_,hw⟩:=DataW.trod_int ht h;have:=wf_u8 hw;refine⟨UInt8.ofNat n.toNat,?_,trivial⟩;rw[hc];simp only[jM,List.cons.injEq,Value.int.injEq,true_and,and_true];rw[Ye];omega⟩
theorem Dm{P:Program}{t:TypeId}(ht:P.underlying t=some .bool):Ca P t Bool (fun b=>[.bool b]) (fun _ _=>True):=
 ⟨fun _ _ _ _ _ _ h=>let ⟨b,hc,_⟩:=DataW.trod_bool ht h;⟨b,hc,trivial⟩⟩
theorem mZ{α:Type}{p:Nat->α->Prop}:∀(n:Nat),(∀i,i<n->∃y,p i y)->∃ls:List α,ls.length=n/\∀i (hi:i<ls.length),p i ls[i]
 |0,_=>⟨[],rfl,fun i hi=>by simp at hi⟩
 |n+1,h=>by
   obtain⟨ls,hl,hp⟩:=mZ n (fun i hi=>h i om);obtain⟨y,hy⟩:=h n om;refine⟨ls++[y],by simp[hl],fun i hi=>?_⟩;by_cases hin:i<ls.length
   · rw[Yy hin];exact hp i hin
   · have:i=n:=by simp at hi;omega
     subst this;rw[List.getElem_append_right om];simpa[hl]using hy
theorem uB{b o n:Nat}:(⟨b,o,none⟩:Addr).add n=⟨b,o+n,none⟩:=by
 unfold Addr.add
 split
 · rename_i h;subst h;rfl
 · rfl
theorem cells?_get{w:World}{a:Addr}{n:Nat}{l:List Value}(h:w.cells? 0 a n=some l)(j:Nat)(hj:j<n):w.cell? (a.add j)=l[j]? :=by
 unfold World.cells? at h;simp only[Xv,if_true]at h;exact mapM_some_get h j j (by simp[hj])
theorem w6{P:Program}{t e:TypeId}{n:Nat}{α:Type}{enc:α->List Value}{Rd:World->α->Prop}(O:Ca P e α enc Rd)(ht:P.underlying t=some (.slice e))(hn:P.cellsOf e=n)(hpos:0<n)(hlen:∀y,(enc y).length=n)
   {H:Type}{en:TypeId×Value->H}{w:World}{sp:Nat->Bool}{fuel:Nat}{cs:List Value}{x:DataW H×List MemPlace}(h:DataW.trod en P w 0 sp true fuel t cs=some x):∃(a:Option Addr)(c:Nat)(ls:List α),cs=[.slice a ls.length c]/\cY w (.slice a ls.length c) n (ls.flatMap enc)/\∀y∈ls,Rd w y:=by
 rcases DataW.trod_slice ht h with⟨hc,_⟩|⟨a,len,cap,elems,rest,m,_,hcs,_,_,hl,hm,hel,hi,_⟩
 · exact⟨none,0,[],by simpa using hc,⟨none,0,0,rfl,sm,W8 _,by unfold maxLen;omega,sm⟩,sm⟩
 · rw[hn]at hi
   have hex:∀i,i<len->∃y,w.cells? 0 (a.add (i*n)) n=some (enc y)/\Rd w y:=fun i hlt=>by
     have h1:=hi i hlt;rw[WW om]at h1;simp only[Option.bind_eq_some_iff]at h1;obtain⟨c1,h2,h3⟩:=h1;obtain⟨y,rfl,hy⟩:=O.ok en w sp m c1 _ h3;exact⟨y,h2,hy⟩
   obtain⟨ls,hls,hp⟩:=mZ len hex;have hcell:∀i (hi:i<ls.length) j,j<n->w.cell? ((a.add (i*n)).add j)=(enc ls[i])[j]? :=fun i hi j hj=>cells?_get (hp i hi).1 j hj;have hspot:0<len->a.spot=none:=fun h0=>by
     have h1:=hcell 0 om 0 hpos;rw[show(a.add (0*n)).add 0=a by simp[Addr.add],WW (by rw[hlen];exact hpos)]at h1;unfold World.cell? at h1
     split at h1
     · split at h1
       · cases h1
       · rename_i hs;simpa using hs
     · cases h1
   refine⟨some a,cap,ls,by rw[hls];exact hcs,⟨some a,ls.length,cap,rfl,fy enc n hlen ls,om,hm,fun h0=>?_⟩,fun y hy=>?_⟩
   · have h0':0<len:=by
       rw[fy enc n hlen ls,hls]at h0;rcases YH len with h|h
       · subst h;simp at h0
       · exact h
     refine⟨a.block,a.off,?_,fun j u hj=>?_⟩
     · have:=hspot h0'
       cases a;simp_all
     · have hjl:j<ls.length*n:=by
         have:=(List.getElem?_eq_some_iff.1 hj).1
         rwa [fy enc n hlen ls]at this
       have hq:j/n<ls.length:=Nat.div_lt_of_lt_mul (by rwa [Yn]at hjl);have hr:j%n<n:=YZ _ hpos;have hjd:j/n*n+j%n=j:=by rw[Yn];exact Nat.div_add_mod j n
       have h1:=hcell (j/n) hq (j%n) hr;rw[←iL enc n hlen ls (j/n) (j%n) hq hr,hjd,hj]at h1;have e:(a.add (j/n*n)).add (j%n)=⟨a.block,a.off+j,none⟩:=by
         have hs:=hspot h0';obtain⟨ab,ao,_⟩:=a;simp only at hs;subst hs;rw[uB,uB,X9,hjd]
       rw[e]at h1;exact h1
   · obtain⟨i,hi,rfl⟩:=XU hy
     exact(hp i hi).2
theorem xj(l:List UInt8):l.flatMap (fun b=>[jM b])=aE l:=by
 induction l with
 |nil=>rfl
 |cons b l ih=>simp[Xw,ih,aE]
theorem tc{P:Program}{t e:TypeId}(ht:P.underlying t=some (.slice e))(he:P.underlying e=some (.int .u8))(hc:P.cellsOf e=1):Ca P t BS (fun x=>[x.val]) (fun w x=>gN w x.val x.l):=
 ⟨fun en w sp fuel cs x h=>by
   obtain⟨a,c,ls,h1,h2,_⟩:=w6 (H5 he) ht hc om (fun _=>rfl) h;rw[xj]at h2;exact⟨⟨a,c,ls⟩,h1,h2⟩⟩
theorem qW(l:List BS):l.flatMap (fun b=>[b.val])=l.map BS.val:=by
 induction l with
 |nil=>rfl
 |cons b l ih=>simp[Xw,ih]
theorem G8{P:Program}{t e u:TypeId}(ht:P.underlying t=some (.slice e))(he:P.underlying e=some (.slice u))(hu:P.underlying u=some (.int .u8))(hc:P.cellsOf e=1)(hc':P.cellsOf u=1):Ca P t PS (fun x=>[.slice x.a x.ls.length x.c]) (fun w x=>cY w (.slice x.a x.ls.length x.c) 1 (x.ls.map BS.val)/\∀y∈x.ls,gN w y.val y.l):=
 ⟨fun en w sp fuel cs x h=>by
   obtain⟨a,c,ls,h1,h2,h3⟩:=w6 (tc he hu hc') ht hc om (fun _=>rfl) h;rw[qW]at h2;exact⟨⟨a,c,ls⟩,h1,h2,h3⟩⟩
theorem Bl{P:Program}{t e:TypeId}{n:Nat}(ht:P.underlying t=some (.array n e))(he:P.underlying e=some (.int .u8))(hc:P.cellsOf e=1)(hn:P.cellsOf t=n):Ca P t (Vector UInt8 n) (fun v=>aX v) (fun _ _=>True):=
 ⟨fun en w sp fuel cs x h=>by
   obtain⟨xs,m,_,_,hl,hlen,hi⟩:=DataW.trod_array ht h;rw[hn]at hl;have hex:∀i,i<n->∃b:UInt8,cs[i]? =some (jM b):=fun i hlt=>by
     have h1:=hi i hlt;rw[hc,Yp,WW om]at h1;obtain⟨b,hb,_⟩:=(H5 he).ok en w sp m _ _ h1;refine⟨b,?_⟩;have h2:=congrArg (·[0]?) hb;simpa[XR,Yw]using h2
   obtain⟨ls,hls,hp⟩:=mZ n hex;refine⟨⟨ls.toArray,by simp[hls]⟩,?_,trivial⟩;apply List.ext_getElem?;intro i;by_cases hi:i<n
   · rw[hp i om]
     simp[aX,aE,WW (show i<ls.length by omega)]
   · rw[XT om,XT so]⟩
theorem Aw{cs:List Value}(n m:Nat):(cs.drop n)=(cs.drop n).take m++cs.drop (n+m):=by
 rw[←X2];exact(XC m _).symm
theorem vX{P:Program}{w:World}{t:TypeId}{v:Value}{b:Nat}{d:TypeDesc}(hd:P.underlying t=some d)(hs:(match d with| .int _| .bool| .string| .slice _=>true|_=>false)=true)(h:Value.okWide P w .any b t v):v.cells= #[v]:=by
 unfold Value.okWide at h;rw[hd]at h;cases d<;>simp at hs<;>simp only[Cell.okWide,hd]at h<;>cases v<;>simp[Cell.ok,hd,Value.cells]at h ⊢
section
variable {H:Type} {enc:TypeId×Value->H} {P:Program}
theorem xi{f:Func}{s:ChangeSpec}{apart fresh handsOn again:Bool}{W W':World}{args:Array Value}{v:Value}{ds gs:List (DataW H)}{before pa pv:List MemPlace}
   (hW:DataW.Whole enc P f.params.toList s.vars apart W args.toList ds gs before)
   (hres:∀(b:Nat)(sp:Nat->Bool)(hd:Bool),DataW.TrodAll enc P W' b sp hd f.resultTypes.toList (v.resultList f.resultTypes.size) (s.fn H (ds++gs)).results [])
   (hargs:∀sp:Nat->Bool,(∀p∈before,sp p.block=true)->DataW.TrodAll enc P W' 0 sp true f.params.toList args.toList (s.fn H (ds++gs)).args pa)
   (hvars:∀sp:Nat->Bool,(∀p∈before,sp p.block=true)->DataW.TrodVars enc P W' sp s.vars (s.fn H (ds++gs)).vars pv)
   (hps:before=pa++pv)(hb:Below W.heap.size W W')
   (hok:∀(j:Nat)(t:TypeId)(r:Value),f.resultTypes[j]? =some t->(v.resultList f.resultTypes.size)[j]? =some r->Value.okWide P W' .any 0 t r):s.post enc P f apart fresh handsOn again W args v W':=by
 have hlt:∀p∈before,p.block<W.heap.size:=fun p hp=>hW.lt p hp;have hold:∀p∈before,(fun b=>decide (b<W.heap.size)) p.block=true:=fun p hp=>by simpa using hlt p hp
 refine⟨ds,gs,before,[],pa,pv,hW,hres _ _ _,hargs _ hold,hvars _ hold,World.keptBut_mono (fun p hp=>⟨hp,?_⟩) (hb.frame (· ∈before)),fun _=>?_⟩
 · rw[hps,Xc]at hp
   exact Or.inr hp
 · obtain⟨_,_,_,_,_,hz,hn⟩:=hW
   refine⟨hok,_,_,([]++pa)++pv,⟨[]++pa,pv,trodAll_append (hargs _ (fun _ _=>rfl)) (hres _ _ _),hvars _ (fun _ _=>rfl),rfl,?_,?_⟩,?_⟩
   · intro b off hp
     have hin:MemPlace.cell b off∈before:=by rw[hps];simpa using hp
     rw[hb.frozen (hlt _ hin)];exact hz b off hin
   · intro ha
     have:=hn ha;rw[hps]at this;simpa using this
   · intro p hp _
     rw[hps];simpa using hp
theorem qt(hl:laidOutB P=true){W W':World}(hb:Below W.heap.size W W'){sp:Nat->Bool}:∀ {ts:List TypeId}{vs:List Value}{ds:List (DataW H)}{ps:List MemPlace},(ts.all fun t=>P.readableRec t&&decide (t<P.types.size))=true->
   (∀p∈ps,p.block<W.heap.size)->(∀p∈ps,sp p.block=true)->DataW.TrodAll enc P W 0 (fun _=>true) true ts vs ds ps->DataW.TrodAll enc P W' 0 sp true ts vs ds ps
 |[],[],[],_,_,_,_,h=>h
 |t::ts,v::vs,d::ds,ps,ht,hlt,hsp,h=>by
   obtain⟨p,q,h1,h2,rfl⟩:=h;simp only[List.all_cons,Xz,decide_eq_true_eq]at ht;exact⟨p,q,WideElems.Trod_stays hl ht.1.1 ht.1.2 h1 (fun x hx=>hb.same (hlt x (by simp[hx]))) (fun x hx=>hsp x (by simp[hx])),qt hl hb ht.2 (fun x hx=>hlt x (by simp[hx])) (fun x hx=>hsp x (by simp[hx])) h2,rfl⟩
 |[],_::_,_,_,_,_,_,h=>by cases h
 |[],[],_::_,_,_,_,_,h=>by cases h
 |_::_,[],_,_,_,_,_,h=>by cases h
 |_::_,_::_,[],_,_,_,_,h=>by cases h
end
end Go.Sx
namespace Go.Sx
theorem cZ{cs l r:List Value}{n m:Nat}(h:(cs.drop n).take m=l)(hr:cs.drop (n+m)=r):cs.drop n=l++r:=by
 rw[←h,←hr];exact Aw n m
theorem jz{cs l:List Value}{n m:Nat}(h:(cs.drop n).take m=l)(hl:cs.length=n+m):cs.drop n=l:=by
 rw[←h,W7];rw[Xe];omega
end Go.Sx
end
section
namespace Go.Sx
open Go.RowKit
structure FSq where
 a:Option Addr
 n:Nat
 c:Nat
 sz:Nat
 xs:List Value
structure iy where
 b:List BS
 p:List PS
 f:List FSq
def iy.nil:iy:=⟨[],[],[]⟩
def iy.app(x y:iy):iy:=⟨x.b++y.b,x.p++y.p,x.f++y.f⟩
class Deep(T:Type) where
 leads:T->iy
def dD{T:Type}[Deep T]:List T->iy
 |[]=> .nil
 |v::vs=>(Deep.leads v).app (dD vs)
structure uA(w0:World)(H:List SA)(x:iy):Prop where
 b:∀y∈x.b,∀w,St w0 H w->gN w y.val y.l
 p:∀y∈x.p,∀w,St w0 H w->cY w (.slice y.a y.ls.length y.c) 1 (y.ls.map BS.val)
 e:∀y∈x.p,∀z∈y.ls,∀w,St w0 H w->gN w z.val z.l
 f:∀y∈x.f,∀w,St w0 H w->cY w (.slice y.a y.n y.c) y.sz y.xs
theorem uA.MK{w0:World}{H:List SA}{x:SA}{l:iy}(h:uA w0 H l):uA w0 (x::H) l:=
 ⟨fun y hy w hw=>h.b y hy w hw.tail,fun y hy w hw=>h.p y hy w hw.tail,fun y hy z hz w hw=>h.e y hy z hz w hw.tail,fun y hy w hw=>h.f y hy w hw.tail⟩
theorem uA.nil{w0:World}{H:List SA}:uA w0 H .nil:=⟨fun _ h=>acX,fun _ h=>acX,fun _ h=>acX,fun _ h=>acX⟩
theorem uA.app{w0:World}{H:List SA}{x y:iy}(h:uA w0 H x)(h':uA w0 H y):uA w0 H (x.app y):=
 ⟨fun z hz=>(Xc.1 hz).elim (h.b z) (h'.b z),fun z hz=>(Xc.1 hz).elim (h.p z) (h'.p z),fun z hz=>(Xc.1 hz).elim (h.e z) (h'.e z),fun z hz=>(Xc.1 hz).elim (h.f z) (h'.f z)⟩
theorem uA.left{w0:World}{H:List SA}{x y:iy}(h:uA w0 H (x.app y)):uA w0 H x:=
 ⟨fun z hz=>h.b z (Xx _ hz),fun z hz=>h.p z (Xx _ hz),fun z hz=>h.e z (Xx _ hz),fun z hz=>h.f z (Xx _ hz)⟩
theorem uA.right{w0:World}{H:List SA}{x y:iy}(h:uA w0 H (x.app y)):uA w0 H y:=
 ⟨fun z hz=>h.b z (Xo _ hz),fun z hz=>h.p z (Xo _ hz),fun z hz=>h.e z (Xo _ hz),fun z hz=>h.f z (Xo _ hz)⟩
theorem uA.mono{w0:World}{H H':List SA}{x:iy}(h:uA w0 H x)(hs:∀w,St w0 H' w->St w0 H w):uA w0 H' x:=
 ⟨fun y hy w hw=>h.b y hy w (hs w hw),fun y hy w hw=>h.p y hy w (hs w hw),fun y hy z hz w hw=>h.e y hy z hz w (hs w hw),fun y hy w hw=>h.f y hy w (hs w hw)⟩
class Rd{T:Type}[Deep T](w0:World)(H:List SA)(v:T):Prop where ok:uA w0 H (Deep.leads v)
class Ae{T:Type}[Deep T](w0:World)(H:List SA)(vs:List T):Prop where ok:∀v∈vs,uA w0 H (Deep.leads v)
section
variable {T:Type} [Deep T] {w0:World} {H:List SA}
instance Rd.tail{x:SA}{v:T}[h:Rd w0 H v]:Rd w0 (x::H) v:=⟨h.ok.MK⟩
instance Ae.tail{x:SA}{vs:List T}[h:Ae w0 H vs]:Ae w0 (x::H) vs:=⟨fun v hv=>(h.ok v hv).MK⟩
instance Ae.at{vs:List T}[h:Ae w0 H vs]{k:Nat}{hk:k<vs.length}:Rd w0 H (vs[k]'hk):=⟨h.ok _ (W1 hk)⟩
instance Ae.nil:Ae w0 H ([]:List T):=⟨fun _ h=>acX⟩
instance Ae.cons{v:T}{vs:List T}[h:Rd w0 H v][h':Ae w0 H vs]:Ae w0 H (v::vs):=⟨fun u hu=>by
 rcases Xg.1 hu with rfl|hu
 · exact h.ok
 · exact h'.ok u hu⟩
theorem Ae.mem{vs:List T}(h:Ae w0 H vs){v:T}(hv:v∈vs):Rd w0 H v:=⟨h.ok v hv⟩
theorem DZ(vs us:List T):dD (vs++us)=(dD vs).app (dD us):=by
 induction vs with
 |nil=>simp[dD,iy.app,iy.nil]
 |cons v vs ih=>simp[dD,ih,iy.app]
theorem Ae.leads{vs:List T}(h:Ae w0 H vs):uA w0 H (dD vs):=by
 have:=h.ok;clear h
 induction vs with
 |nil=>exact .nil
 |cons v vs ih=>exact(this v sm).app (ih fun u hu=>this u (by simp[hu]))
theorem Ae.of{vs:List T}(h:uA w0 H (dD vs)):Ae w0 H vs:=⟨by
 induction vs with
 |nil=>intro v hv;cases hv
 |cons v vs ih=>
   intro u hu;rcases Xg.1 hu with rfl|hu
   · exact h.left
   · exact ih h.right u hu⟩
end
instance ju.at{w0:World}{H:List SA}{ls:List BS}[h:ju w0 H ls]{k:Nat}{hk:k<ls.length}:dT w0 H (.slice (ls[k]'hk).a (ls[k]'hk).l.length (ls[k]'hk).c) (ls[k]'hk).l:=⟨h.rd _ (W1 hk)⟩
def gu(fp:List Nat)(w:World)(v:Value)(sz:Nat)(xs:List Value):Prop:=
 ∃a n c,v= .slice a n c/\xs.length=n*sz/\n<=c/\c<=maxLen/\(0<xs.length->∃b o,a=some ⟨b,o,none⟩/\b∈fp/\∀j u,xs[j]? =some u->w.cell? ⟨b,o+j,none⟩=some u)
theorem gu.at{fp:List Nat}{w:World}{v:Value}{sz:Nat}{xs:List Value}(h:gu fp w v sz xs):cY w v sz xs:=by
 obtain⟨a,n,c,h1,h2,h3,h4,h5⟩:=h;exact ac6
theorem gu.gQ{fp fp':List Nat}{w w':World}{v:Value}{sz:Nat}{xs:List Value}(h:gu fp w v sz xs)(hs:∀b∈fp,b∈fp')(hb:∀b∈fp,w'.heap[b]? =w.heap[b]?):gu fp' w' v sz xs:=by
 obtain⟨a,n,c,h1,h2,h3,h4,h5⟩:=h;refine⟨a,n,c,h1,h2,h3,h4,fun h0=>?_⟩;obtain⟨b,o,e1,e2,e3⟩:=h5 h0;refine⟨b,o,e1,hs b e2,fun j u hj=>?_⟩;rw[←e3 j u hj];simp only[World.cell?,hb b e2]
theorem lM{v:Value}{e:TypeId}{sz:Nat}{xs:List Value}{w:World}(h:qS v e sz xs w):gu (bQ v) w v sz xs:=by
 have hc:=h.cells;obtain⟨a,n,c,hv,hl,hn,hc',ha,hx⟩:=h;refine⟨a,n,c,hv,hl,hn,hc',fun h0=>?_⟩;have hc0:c≠0:=by
   rintro rfl;obtain rfl:n=0:=om;simp at hl;simp[hl]at h0
 obtain⟨g,cur,hg,hw,h1,h2⟩:=hx hc0;obtain⟨a',n',c',hv',-,-,-,hcell⟩:=hc;obtain⟨b,o,hb,hce⟩:=hcell h0;subst hv;subst hg;simp only[Value.slice.injEq]at hv';have hb2:(some (⟨g,0,none⟩:Addr))=some ⟨b,o,none⟩:=hv'.1.trans hb;simp only[Yq,Addr.mk.injEq]at hb2;refine⟨g,0,rfl,by simp[bQ,hc0],fun j u hj=>?_⟩;have:=hce j u hj;rw[←hb2.1,←hb2.2.1]at this;exact aeq
structure Gh(fp:List Nat)(w:World)(x:iy):Prop where
 b:∀y∈x.b,gu fp w y.val 1 (aE y.l)
 p:∀y∈x.p,gu fp w (.slice y.a y.ls.length y.c) 1 (y.ls.map BS.val)
 e:∀y∈x.p,∀z∈y.ls,gu fp w z.val 1 (aE z.l)
 f:∀y∈x.f,gu fp w (.slice y.a y.n y.c) y.sz y.xs
theorem Gh.gQ{fp fp':List Nat}{w w':World}{x:iy}(h:Gh fp w x)(hs:∀b∈fp,b∈fp')(hb:∀b∈fp,w'.heap[b]? =w.heap[b]?):Gh fp' w' x:=
 ⟨fun y hy=>(h.b y hy).gQ hs hb,fun y hy=>(h.p y hy).gQ hs hb,fun y hy z hz=>(h.e y hy z hz).gQ hs hb,fun y hy=>(h.f y hy).gQ hs hb⟩
theorem Gh.app{fp:List Nat}{w:World}{x y:iy}(h:Gh fp w x)(h':Gh fp w y):Gh fp w (x.app y):=
 ⟨fun z hz=>(Xc.1 hz).elim (h.b z) (h'.b z),fun z hz=>(Xc.1 hz).elim (h.p z) (h'.p z),fun z hz=>(Xc.1 hz).elim (h.e z) (h'.e z),fun z hz=>(Xc.1 hz).elim (h.f z) (h'.f z)⟩
theorem Gh.sub{fp:List Nat}{w:World}{x y:iy}(h:Gh fp w x)(hb:∀z∈y.b,z∈x.b)(hp:∀z∈y.p,z∈x.p)(hf:∀z∈y.f,z∈x.f):Gh fp w y:=
 ⟨fun z hz=>h.b z (hb z hz),fun z hz=>h.p z (hp z hz),fun z hz=>h.e z (hp z hz),fun z hz=>h.f z (hf z hz)⟩
theorem Gh.nil{fp:List Nat}{w:World}:Gh fp w .nil:=⟨fun _ h=>acX,fun _ h=>acX,fun _ h=>acX,fun _ h=>acX⟩
def dX(fp:List Nat)(x:iy):SA:=⟨fp,fun w=>Gh fp w x,fun _ _ hb h=>h.gQ (fun _ h=>h) hb⟩
theorem uA.own{w0:World}{H:List SA}{fp:List Nat}{x:iy}:uA w0 (dX fp x::H) x:=
 ⟨fun y hy w hw=>((hw.holds (dX fp x) sm).b y hy).at,fun y hy w hw=>((hw.holds (dX fp x) sm).p y hy).at,fun y hy z hz w hw=>((hw.holds (dX fp x) sm).e y hy z hz).at,fun y hy w hw=>((hw.holds (dX fp x) sm).f y hy).at⟩
instance Rd.own{T:Type}[Deep T]{w0:World}{H:List SA}{fp:List Nat}{v:T}:Rd w0 (dX fp (Deep.leads v)::H) v:=⟨.own⟩
instance Ae.own{T:Type}[Deep T]{w0:World}{H:List SA}{fp:List Nat}{vs:List T}:Ae w0 (dX fp (dD vs)::H) vs:= .of .own
theorem St.iw{w0 w:World}{H:List SA}(h:St w0 H w):St w0 (dX [] .nil::H) w:=
 h.fresh rfl rfl rfl (W8 _) (fun _ _=>rfl) .nil (by simp[dX]) (by simp[dX])
theorem St.j3{w0 w:World}{H:List SA}{fp fp':List Nat}{x y:iy}(h:St w0 (dX fp x::dX fp' y::H) w):St w0 (dX (fp++fp') (x.app y)::H) w:=
 h.merge rfl fun h1 h2=>(h1.gQ (fun b hb=>Xx _ hb) (fun _ _=>rfl)).app (h2.gQ (fun b hb=>Xo _ hb) (fun _ _=>rfl))
theorem St.Hq{w0 w:World}{H:List SA}{x y:SA}(h:St w0 (x::H) w)(hfp:y.fp=x.fp)(hp:x.p w->y.p w):St w0 (y::H) w:=
 ⟨h.below,by have:=h.nodup;simp only[Xw,hfp]at this ⊢;exact this,fun z hz=>by
   rcases Xg.1 hz with rfl|hz
   · exact hp (h.holds x sm)
   · exact h.holds z (by simp[hz]),fun z hz b hb=>by
   rcases Xg.1 hz with rfl|hz
   · exact h.lo x sm b (hfp▸hb)
   · exact h.lo z (by simp[hz]) b hb⟩
theorem St.KV{w0 w:World}{H:List SA}{x:BS}{e:TypeId}(h:St w0 (row (.slice x.a x.l.length x.c) e 1 (aE x.l)::H) w):St w0 (dX (bQ (.slice x.a x.l.length x.c)) ⟨[x],[],[]⟩::H) w:=
 h.Hq rfl fun hp=>⟨fun y hy=>(by
   obtain rfl:y=x:=(by simpa using hy);exact lM hp),fun _ h=>acX,fun _ h=>acX,fun _ h=>acX⟩
theorem St.Pv{w0 w:World}{H:List SA}{x:PS}{e:TypeId}{fp:List Nat}(h:St w0 (row (.slice x.a x.ls.length x.c) e 1 (x.ls.map BS.val)::dX fp ⟨x.ls,[],[]⟩::H) w):St w0 (dX (bQ (.slice x.a x.ls.length x.c)++fp) ⟨[],[x],[]⟩::H) w:=
 h.merge rfl fun h1 h2=>⟨fun _ h=>acX,fun y hy=>(by
   obtain rfl:y=x:=by simpa using hy
   exact(lM h1).gQ (fun b hb=>Xx _ hb) (fun _ _=>rfl)),
   fun y hy z hz=>(by
     obtain rfl:y=x:=by simpa using hy
     exact(h2.b z hz).gQ (fun b hb=>Xo _ hb) (fun _ _=>rfl)),fun _ h=>acX⟩
instance ju.V9{w0:World}{H:List SA}{fp:List Nat}{ls:List BS}:ju w0 (dX fp ⟨ls,[],[]⟩::H) ls:=⟨fun x hx w hw=>((hw.holds (dX fp ⟨ls,[],[]⟩) sm).b x hx).at⟩
instance PS.deep:Deep PS:=⟨fun x=>⟨[],[x],[]⟩⟩
instance BS.deep:Deep BS:=⟨fun x=>⟨[x],[],[]⟩⟩
theorem GX{w0 w:World}{H:List SA}{v:Value}{e sz k:Nat}{xs:List Value}(h:St w0 (row v e sz xs::H) w)(hk:xs.length=k*sz)(hsz:0<sz):∃a c,v= .slice a k c:=by
 obtain⟨a,n,c,hv,hl,-⟩:=h.holds (row v e sz xs) sm;have:n=k:=Nat.eq_of_mul_eq_mul_right hsz (hl.symm.trans hk);subst this;exact⟨a,c,hv⟩
section
variable {P:Program} {w0:World} {σ:Env} {H:List SA} {d:Option Nat} {ty:TypeId} {pos:String} {aft:Array Edge} {g:Option (Nat×Bool)} {K:Value->List SA->Prop}
theorem cp{α:Type}(enc:α->List Value){s x:Operand}{t e sz bytes:Nat}{sv xv:Value}{xs ys:List α}{Hr:List SA}(hlen:∀x,(enc x).length=sz)(h1:∀x,(enc x).all Value.oneCell'=true)(hs:ev σ s=sv)(hx:ev σ x=xv)[ht:jg P t e sz bytes]
   [hr:oy sv H e sz (xs.flatMap enc) Hr][hn:gy w0 H xv sz (ys.flatMap enc)](hb:xs.length+ys.length<=10000000)(hsz:Nat.ble sz 400=true)(hby:Nat.ble bytes 4000=true)
   (h:∀a c,K (.slice a (xs++ys).length c) (row (.slice a (xs++ys).length c) e sz ((xs++ys).flatMap enc)::Hr)):Ef P w0 H σ ⟨d,.call ⟨.builtin .append,#[s,x],#[t,t]⟩,ty,pos,aft,g⟩ K:=by
 obtain⟨i,z,hi,hz,hsz',hby',hzs⟩:=ht.spec;have hby2:=XL hby;have hsz2:=XL hsz;have e1:=fy enc sz hlen xs;have e2:=fy enc sz hlen ys;have hle:(xs.flatMap enc).length+(ys.flatMap enc).length<=10000000*400:=by
   rw[e1,e2,←XY];exact Yz hb hsz2
 refine(tj (K:=fun v H'=>H'=row v e sz (xs.flatMap enc++ys.flatMap enc)::Hr) (m:=ys.length) sv xv hs hx (fun w hw=>hr.st hw) hn.rd ht.ht hi hz hsz' hby' hzs ht.pos e2 ?_ om ?_ (fun _=>rfl)).mono ?_
 · intro u hu
   obtain⟨y,_,hy⟩:=Y7.1 hu;exact Yc.1 (h1 y) u hy
 · exact Yk (Yz hle hby2) dc
 · intro v H' w hH hw
   subst hH;rw[←Yb]at hw;obtain⟨a,c,rfl⟩:=GX hw (fy enc sz hlen (xs++ys)) ht.pos;exact⟨_,h a c,hw⟩
end
end Go.Sx
namespace Go.Sx
open Go.RowKit
def HN(P:Program)(n:Fr)(c:Code)(Q:iM)(a:Act)(w:World):Prop:=
 ∀b k cs,∃e a' w',lift n Q e a' w'/\Arrives P (lone (b.at a (.code c:: .inLoop c::k)) cs w) b k cs e a' w'
def TU(P:Program)(n:Fr)(w0:World)(c:Code)(σ:Env)(H:List SA)(Q:iM):Prop:=∀a w,qA n a σ->St w0 H w->HN P n c Q a w
def zJ(P:Program)(n:Fr)(c:Code)(Q:iM):iM:=fun e σ w=>match e with
 | .normal=>∀a,qA n a σ->HN P n c Q a w
 |e=>Q e σ w
section
variable {P:Program} {n:Fr} {w0:World} {σ:Env} {H:List SA} {Q:iM} {c:Code}
theorem gD(h:TU P n w0 c σ H Q):T P n w0 (.loop c) σ H Q:=fun a w ha hw b k cs=>by
 obtain⟨e,a',w',hq,harr⟩:=h a w ha hw b k cs;exact ag9
theorem cc(h:T P n w0 c σ H (zJ P n c Q)):TU P n w0 c σ H Q:=fun a w ha hw b k cs=>by
 obtain⟨e,a₁,w₁,hq,harr⟩:=h a w ha hw b (.inLoop c::k) cs;cases e with
 |normal=>
   obtain⟨σ',g1,g2⟩:=hq;obtain⟨e₂,a₂,w₂,hq₂,harr₂⟩:=g2 a₁ g1 b k cs;exact aeV
 |exit id=>exact⟨.exit id,a₁,w₁,hq,.pass (x:= .inLoop c) rfl (fun _ _=> .inl sm) harr⟩
 |goto l=>exact⟨.goto l,a₁,w₁,hq,.pass (x:= .inLoop c) rfl (fun _ _=> .inl sm) harr⟩
 |ret=>exact⟨.ret,a₁,w₁,hq,.pass (x:= .inLoop c) rfl (fun _ _=> .inl sm) harr⟩
 |panic ch=>exact⟨.panic ch,a₁,w₁,hq,.pass (x:= .inLoop c) rfl (fun _ _=> .inl sm) harr⟩
 |outgrown=>exact⟨.outgrown,a₁,w₁,hq,.pass (x:= .inLoop c) rfl (fun _ _=> .inl sm) harr⟩
theorem eD(h:TU P n w0 c σ H Q):X w0 .normal (zJ P n c Q) σ H:=fun w hw a ha=>h a w ha hw
theorem eB{j:Nat}(h:X w0 (.exit j) Q σ H):X w0 (.exit j) (zJ P n c Q) σ H:=h
theorem eJ(h:X w0 .ret Q σ H):X w0 .ret (zJ P n c Q) σ H:=h
end
end Go.Sx
namespace Go.Sx
open Go.RowKit
def lk(a:Option Addr)(c i sz:Nat):Option Addr:=if c=i then a else a.map (·.add (i*sz))
theorem cY.sub{w:World}{a:Option Addr}{n c sz:Nat}{xs:List Value}(h:cY w (.slice a n c) sz xs)(hsz:0<sz)(i m:Nat)(hm:i+m<=n):cY w (.slice (lk a c i sz) m (c-i)) sz ((xs.drop (i*sz)).take (m*sz)):=by
 obtain⟨a',n',c',hv,hl,hn,hc,hx⟩:=h;obtain⟨rfl,rfl,rfl⟩:a'=a/\n'=n/\c'=c:=abQ;have hle:i*sz+m*sz<=n'*sz:=by rw[←XY];exact Xp _ hm
 refine⟨_,_,_,rfl,so,om,om,fun h0=>?_⟩;have hm0:0<m:=by
   rcases YH m with h|h
   · subst h;simp at h0
   · exact h
 have hpos:0<xs.length:=by rw[hl];exact Nat.mul_pos om hsz
 obtain⟨b,o,rfl,hce⟩:=hx hpos;refine⟨b,o+i*sz,by simp only[lk];rw[if_neg om];simp only[XK,fI],fun j u hj=>?_⟩;rw[XR]at hj
 split at hj
 · rw[Yw]at hj
   rw[X9];exact hce _ u hj
 · cases hj
instance (priority:=low) dT.sub{w0:World}{H:List SA}{a:Option Addr}{c i m:Nat}{l:List UInt8}[h:dT w0 H (.slice a l.length c) l]:dT w0 H (.slice (lk a c i 1) ((l.drop i).take m).length (c-i)) ((l.drop i).take m):=⟨fun w hw=>by
 by_cases hi:i<=l.length
 · have:=(h.rd w hw).sub dc i ((l.drop i).take m).length so
   have e:(List.drop (i*1) (aE l)).take (((l.drop i).take m).length*1)=aE ((l.drop i).take m):=by
     simp only[aE,Yp,List.map_take,List.map_drop,Xj,Xe];rw[List.take_eq_take_iff]
     first|(simp;done)|(simp;omega)
   rw[e]at this;exact this
 · have e:(l.drop i).take m=[]:=by rw[List.drop_eq_nil_of_le om];simp
   rw[e];exact⟨_,_,_,rfl,by simp[aE],sm,(by obtain⟨a',n',c',hv,hl,hn,hc,hx⟩:=h.rd w hw;simp at hv;omega),by simp[aE]⟩⟩
instance (priority:=low) dT.On{w0:World}{H:List SA}{a:Option Addr}{c m:Nat}{l:List UInt8}[h:dT w0 H (.slice a l.length c) l]:dT w0 H (.slice a (l.take m).length c) (l.take m):=⟨fun w hw=>by
 obtain⟨a',n',c',hv,hl,hn,hc,hx⟩:=h.rd w hw;obtain⟨rfl,rfl,rfl⟩:a'=a/\n'=l.length/\c'=c:=abQ;refine⟨_,_,_,rfl,by simp[aE],so,hc,fun h0=>?_⟩;have hpos:0<(aE l).length:=by simp[aE]at h0 ⊢;omega
 obtain⟨b,o,ha,hce⟩:=hx hpos;refine⟨b,o,ha,fun j u hj=>hce j u ?_⟩;simp only[aE,List.map_take,XR]at hj
 split at hj
 · exact hj
 · cases hj⟩
instance (priority:=low) dT.M7{w0:World}{H:List SA}{a:Option Addr}{c i:Nat}{l:List UInt8}[h:dT w0 H (.slice a l.length c) l]:dT w0 H (.slice (lk a c i 1) (l.drop i).length (c-i)) (l.drop i):=⟨fun w hw=>by
 have:=(dT.sub (h:=h) (i:=i) (m:=l.length)).rd w hw
 rwa [W7 sm]at this⟩
section
variable {P:Program} {w0:World} {σ:Env} {H:List SA} {d:Option Nat} {ty:TypeId} {pos:String} {aft:Array Edge} {g:Option (Nat×Bool)}
theorem pL{t e:TypeId}(h:P.underlying t=some (.slice e)):P.underlying t=some (.slice (P.elem t)):=by simp[Program.elem,h]
theorem Br{x lo hi:Operand}{t e sz bytes n c:Nat}{k k':IntKind}{a:Option Addr}(i j:Nat)(hx:ev σ x= .slice a n c)(hl:ev σ lo= .int k (i:Int))(hh:ev σ hi= .int k' (j:Int))[ht:jg P t e sz bytes](hij:i<=j)(hjc:∀w,St w0 H w->j<=c):Qt P w0 H σ ⟨d,.slice t x (some lo) (some hi) none,ty,pos,aft,g⟩ (.slice (lk a c i sz) (j-i) (c-i)):=fun w hw=>by
 obtain⟨ii,z,hi',-,hsz,-,-⟩:=ht.spec;have hel:P.elem t=e:=ahI;have hs:(sizeOf (P.elem t)).run P w= .ok sz w:=by rw[hel,cC hi',hsz]
 have:=run_slice_lh (P:=P) (w:=w) t a n c (pL ht.ht) k k' (i:Int) (j:Int) om om (by have:=hjc w hw;omega);simp only[execOp,hx,XK,Yt,hl,hh,run_sliceAt_slice w t _ _ _ _ (pL ht.ht),Sem.run_bind,this,hs,Result.andThen_ok,Sem.run_pure,sliced,XA,lk]
theorem nO{x hi:Operand}{t e sz bytes n c:Nat}{k':IntKind}{a:Option Addr}(j:Nat)(hx:ev σ x= .slice a n c)(hh:ev σ hi= .int k' (j:Int))[ht:jg P t e sz bytes](hjc:∀w,St w0 H w->j<=c):Qt P w0 H σ ⟨d,.slice t x none (some hi) none,ty,pos,aft,g⟩ (.slice a j c):=fun w hw=>by
 obtain⟨ii,z,hi',-,hsz,-,-⟩:=ht.spec;have hel:P.elem t=e:=ahI;have hs:(sizeOf (P.elem t)).run P w= .ok sz w:=by rw[hel,cC hi',hsz]
 have:=run_slice_h (P:=P) (w:=w) t a n c (pL ht.ht) k' (j:Int) om (by have:=hjc w hw;omega);have e0:(if c=0 then a else a.map (·.add (0*sz)))=a:=by
   split
   · rfl
   · cases a<;>simp[Addr.add]
 simp only[execOp,hx,XK,Yt,hh,run_sliceAt_slice w t _ _ _ _ (pL ht.ht),Sem.run_bind,this,hs,Result.andThen_ok,Sem.run_pure,sliced,XA,e0,Nat.sub_zero]
theorem wc{x lo:Operand}{t e sz bytes n c:Nat}{k:IntKind}{a:Option Addr}(i:Nat)(hx:ev σ x= .slice a n c)(hl:ev σ lo= .int k (i:Int))[ht:jg P t e sz bytes](hij:i<=n):Qt P w0 H σ ⟨d,.slice t x (some lo) none none,ty,pos,aft,g⟩ (.slice (lk a c i sz) (n-i) (c-i)):=fun w hw=>by
 obtain⟨ii,z,hi',-,hsz,-,-⟩:=ht.spec;have hel:P.elem t=e:=ahI;have hs:(sizeOf (P.elem t)).run P w= .ok sz w:=by rw[hel,cC hi',hsz]
 have:=run_slice_l (P:=P) (w:=w) t a n c (pL ht.ht) k (i:Int) om om;simp only[execOp,hx,XK,Yt,hl,run_sliceAt_slice w t _ _ _ _ (pL ht.ht),Sem.run_bind,this,hs,Result.andThen_ok,Sem.run_pure,sliced,XA,lk]
theorem dT.cap{a:Option Addr}{n c:Nat}{l:List UInt8}(h:dT w0 H (.slice a n c) l){w:World}(hw:St w0 H w):n<=c:=by
 obtain⟨a',n',c',hv,hl,hn,hc,hx⟩:=h.rd w hw;simp at hv;omega
theorem lK{x lo hi:Operand}{t e bytes c:Nat}{k k':IntKind}{a:Option Addr}{l:List UInt8}(i m:Nat)(hx:ev σ x= .slice a l.length c)(hl:ev σ lo= .int k (i:Int))(hh:ev σ hi= .int k' ((i+m:Nat):Int))[ht:jg P t e 1 bytes][hr:dT w0 H (.slice a l.length c) l](him:i+m<=l.length):Qt P w0 H σ ⟨d,.slice t x (some lo) (some hi) none,ty,pos,aft,g⟩ (.slice (lk a c i 1) ((l.drop i).take m).length (c-i)):=by
 have:=Br (P:=P) (w0:=w0) (H:=H) (d:=d) (ty:=ty) (pos:=pos) (aft:=aft) (g:=g) (t:=t) i (i+m) hx hl hh om (fun w hw=>by have:=hr.cap hw;omega)
 rwa [show i+m-i=((l.drop i).take m).length from by simp;omega]at this
theorem kg{x hi:Operand}{t e bytes c:Nat}{k':IntKind}{a:Option Addr}{l:List UInt8}(m:Nat)(hx:ev σ x= .slice a l.length c)(hh:ev σ hi= .int k' (m:Int))[ht:jg P t e 1 bytes][hr:dT w0 H (.slice a l.length c) l](him:m<=l.length):Qt P w0 H σ ⟨d,.slice t x none (some hi) none,ty,pos,aft,g⟩ (.slice a (l.take m).length c):=by
 have:=nO (P:=P) (w0:=w0) (H:=H) (d:=d) (ty:=ty) (pos:=pos) (aft:=aft) (g:=g) (t:=t) m hx hh (fun w hw=>by have:=hr.cap hw;omega)
 rwa [show m=(l.take m).length from by simp;omega]at this
theorem ki{x lo:Operand}{t e bytes c:Nat}{k:IntKind}{a:Option Addr}{l:List UInt8}(i:Nat)(hx:ev σ x= .slice a l.length c)(hl:ev σ lo= .int k (i:Int))[ht:jg P t e 1 bytes](hi:i<=l.length):Qt P w0 H σ ⟨d,.slice t x (some lo) none none,ty,pos,aft,g⟩ (.slice (lk a c i 1) (l.drop i).length (c-i)):=by
 have:=wc (P:=P) (w0:=w0) (H:=H) (d:=d) (ty:=ty) (pos:=pos) (aft:=aft) (g:=g) (t:=t) i hx hl hi
 rwa [show l.length-i=(l.drop i).length from by simp]at this
theorem NJ(k:IntKind)(hs:k.signed=false){a b:Nat}(ha:a<2^k.bits)(hb:b<2^k.bits):k.wrap ((BitVec.ofInt k.bits (a:Int)|||BitVec.ofInt k.bits (b:Int)).toNat:Int)=((a|||b:Nat):Int):=by
 have h:=Nat.or_lt_two_pow ha hb;have e:(BitVec.ofInt k.bits (a:Int)|||BitVec.ofInt k.bits (b:Int)).toNat=a|||b:=by
   simp only[Ym,BitVec.toNat_or,Yx,XN ha,XN hb]
 rw[e];simp only[IntKind.wrap,hs,Bool.false_and,Xm,if_false];exact aeB
theorem Fz(k:IntKind)(hs:k.signed=false){a b:Nat}(ha:a<2^k.bits)(hb:b<2^k.bits):k.wrap ((BitVec.ofInt k.bits (a:Int)^^^BitVec.ofInt k.bits (b:Int)).toNat:Int)=((a^^^b:Nat):Int):=by
 have h:=Nat.xor_lt_two_pow ha hb;have e:(BitVec.ofInt k.bits (a:Int)^^^BitVec.ofInt k.bits (b:Int)).toNat=a^^^b:=by
   simp only[Ym,BitVec.toNat_xor,Yx,XN ha,XN hb]
 rw[e];simp only[IntKind.wrap,hs,Bool.false_and,Xm,if_false];exact aeB
theorem KX(k:IntKind)(hs:k.signed=false){a b:Nat}(ha:a<2^k.bits)(hb:b<2^k.bits):k.wrap ((BitVec.ofInt k.bits (a:Int)&&& BitVec.ofInt k.bits (b:Int)).toNat:Int)=((a&&& b:Nat):Int):=by
 have h:a&&& b<2^k.bits:=Nat.lt_of_le_of_lt Nat.and_le_left ha;have e:(BitVec.ofInt k.bits (a:Int)&&& BitVec.ofInt k.bits (b:Int)).toNat=a&&& b:=by
   simp only[Ym,BitVec.toNat_and,Yx,XN ha,XN hb]
 rw[e];simp only[IntKind.wrap,hs,Bool.false_and,Xm,if_false];exact aeB
theorem kM(k:IntKind)(hs:k.signed=false){a:Nat}(ha:a<2^k.bits):k.wrap (a:Int)=(a:Int):=by
 simp only[IntKind.wrap,hs,Bool.false_and,Xm,if_false];exact Int.emod_eq_of_lt om (by exact_mod_cast ha)
theorem zP{t t':TypeId}{x y:Operand}{k:IntKind}{a b:Nat}(hx:ev σ x= .int k (a:Int))(hy:ev σ y= .int k (b:Int))(hs:k.signed=false)(ha:a<2^k.bits)(hb:b<2^k.bits):Qt P w0 H σ ⟨d,.binOp .or t x y t',ty,pos,aft,g⟩ (.int k ((a|||b:Nat):Int)):=by
 have:=MT (P:=P) (w0:=w0) (H:=H) (d:=d) (ty:=ty) (pos:=pos) (aft:=aft) (g:=g) (t:=t) (t':=t') hx hy
 rwa [NJ k hs ha hb]at this
theorem oh{t t':TypeId}{x y:Operand}{k:IntKind}{a b:Nat}(hx:ev σ x= .int k (a:Int))(hy:ev σ y= .int k (b:Int))(hs:k.signed=false)(ha:a<2^k.bits)(hb:b<2^k.bits):Qt P w0 H σ ⟨d,.binOp .and t x y t',ty,pos,aft,g⟩ (.int k ((a&&& b:Nat):Int)):=by
 have:=IE (P:=P) (w0:=w0) (H:=H) (d:=d) (ty:=ty) (pos:=pos) (aft:=aft) (g:=g) (t:=t) (t':=t') hx hy
 rwa [KX k hs ha hb]at this
theorem Mb{t t':TypeId}{x y:Operand}{k:IntKind}{a b:Nat}(hx:ev σ x= .int k (a:Int))(hy:ev σ y= .int k (b:Int))(hs:k.signed=false)(ha:a<2^k.bits)(hb:b<2^k.bits):Qt P w0 H σ ⟨d,.binOp .xor t x y t',ty,pos,aft,g⟩ (.int k ((a^^^b:Nat):Int)):=by
 have:=D9 (P:=P) (w0:=w0) (H:=H) (d:=d) (ty:=ty) (pos:=pos) (aft:=aft) (g:=g) (t:=t) (t':=t') hx hy
 rwa [Fz k hs ha hb]at this
theorem A5{t t':TypeId}{x y:Operand}{k k':IntKind}{a m:Nat}(hx:ev σ x= .int k (a:Int))(hy:ev σ y= .int k' (m:Int))(hm:m<=k.bits)(hr:a*2^m<2^k.bits)(hs:k.signed=false):Qt P w0 H σ ⟨d,.binOp .shl t x y t',ty,pos,aft,g⟩ (.int k ((a*2^m:Nat):Int)):=by
 have:=EN (P:=P) (w0:=w0) (H:=H) (d:=d) (ty:=ty) (pos:=pos) (aft:=aft) (g:=g) (t:=t) (t':=t') hx hy om;have e:(a:Int)*2^(min (m:Int).toNat k.bits)=((a*2^m:Nat):Int):=by
   rw[show min (m:Int).toNat k.bits=m from by simp;omega];push_cast;rfl
 rw[e,kM k hs hr]at this;exact aeq
theorem Lb{t t':TypeId}{x y:Operand}{k':IntKind}{a:Nat}(hx:ev σ x= .int .u64 (a:Int))(hy:ev σ y= .int k' 8)(hr:a<72057594037927936):Qt P w0 H σ ⟨d,.binOp .shl t x y t',ty,pos,aft,g⟩ (.int .u64 ((a*2^8:Nat):Int)):=
 A5 (m:=8) hx hy dc (by show a*2^8<2^64;omega) rfl
end
end Go.Sx
namespace Go.Sx
open Go.RowKit
section
variable {P:Program} {w0:World} {σ:Env} {H:List SA} {d:Option Nat} {ty:TypeId} {pos:String} {aft:Array Edge} {g:Option (Nat×Bool)} {K:Value->List SA->Prop}
theorem ot{s x:Operand}{t e bytes:Nat}{sv xv:Value}{ls:List BS}{Hr:List SA}(y:BS)(hs:ev σ s=sv)(hx:ev σ x=xv)[ht:jg P t e 1 bytes][hr:oy sv H e 1 (ls.map BS.val) Hr][hn:gy w0 H xv 1 [y.val]]
   (hb:ls.length<=4294967295)(hby:Nat.ble bytes 32768=true)
   (h:∀a c,K (.slice a (ls++[y]).length c) (row (.slice a (ls++[y]).length c) e 1 ((ls++[y]).map BS.val)::Hr)):Ef P w0 H σ ⟨d,.call ⟨.builtin .append,#[s,x],#[t,t]⟩,ty,pos,aft,g⟩ K:=
 js hs hx (by
   intro u hu;obtain rfl:u=y.val:=by simpa using hu
   rfl) so hby (fun a c=>by
   have:=h a c;rw[Xi]at this;simpa using this)
end
theorem sN{α:Type}{l x r:List α}{k:Nat}(h:l.drop k=x++r):l.drop (k+x.length)=r:=by
 rw[←X2,h,YQ]
theorem Aj{α:Type}{l x r:List α}{k:Nat}(h:l.drop k=x++r)(hx:0<x.length):k+x.length<=l.length:=by
 have h1:=congrArg List.length h;simp at h1;omega
end Go.Sx
namespace Go.Sx
open Go.RowKit
section
variable {P:Program} {w0:World} {σ:Env} {H:List SA} {d:Option Nat} {ty:TypeId} {pos:String} {aft:Array Edge} {g:Option (Nat×Bool)}
theorem ke{op:BinOp}{x y:Operand}{t t':TypeId}{a b:ByteArray}{v:Value}(hx:ev σ x= .string a)(hy:ev σ y= .string b)(hop:Op.stringOp op a b=pure v):Qt P w0 H σ ⟨d,.binOp op t x y t',ty,pos,aft,g⟩ v:=fun w _=>by
 have h1:(eqGuard op t x y (.string a) (.string b)).run P w= .ok () w:=by cases op<;>rfl
 have h2:binOp op t (.string a) (.string b)=Op.stringOp op a b:=by cases op<;>rfl
 simp only[execOp,hx,hy,Sem.run_bind,h1,h2,hop,Result.andThen_ok,Sem.run_pure]
theorem Hw(a b:ByteArray):(a.toList==b.toList)=decide (a=b):=by
 rw[←beq_toListBytes,W5];obtain⟨a⟩:=a;obtain⟨b⟩:=b;show(a==b)=true↔_;simp
theorem vy{x y:Operand}{t t':TypeId}{a b:ByteArray}(hx:ev σ x= .string a)(hy:ev σ y= .string b):Qt P w0 H σ ⟨d,.binOp .neq t x y t',ty,pos,aft,g⟩ (.bool (!decide (a=b))):=
 ke hx hy (by simp only[Op.stringOp,Hw])
end
end Go.Sx
namespace Go.Sx
section
variable {P:Program} {n:Fr} {w0:World} {σ:Env} {H Hr:List SA} {Q:iM}
theorem aU{all:Array Oper}{l:List Oper}(b:Nat){o:Obj}[h:qC b H o Hr](k:TL P n w0 all l σ (aF b o::Hr) Q):TL P n w0 all l σ H Q:=ez (fun _ hw=>hw.sub h.sub) k
theorem km{S:List SA}{ops:Array Oper}{r:List (Nat×Bool)}(b:Nat){o:Obj}[h:qC b H o Hr](k:DL P n w0 S ops r σ (aF b o::Hr) Q):DL P n w0 S ops r σ H Q:=gX (fun _ hw=>hw.sub h.sub) k
theorem qf{all:Array Oper}{l:List Oper}(x:SA)[h:o6 x H Hr](k:TL P n w0 all l σ (x::Hr) Q):TL P n w0 all l σ H Q:=ez (fun _ hw=>hw.sub h.sub) k
theorem lP{S:List SA}{ops:Array Oper}{r:List (Nat×Bool)}(x:SA)[h:o6 x H Hr](k:DL P n w0 S ops r σ (x::Hr) Q):DL P n w0 S ops r σ H Q:=gX (fun _ hw=>hw.sub h.sub) k
end
end Go.Sx
end
section
namespace Go.Sx
open Go.RowKit
@[reducible] def fm(x:UInt32):Value:= .int .u32 (x.toNat:Int)
def wl(l:List UInt32):List Value:=l.map fm
@[simp] theorem N7(l:List UInt32):(wl l).length=l.length:=adm
theorem tf(l:List UInt32):∀u∈wl l,u.oneCell'=true:=by
 intro u hu;obtain⟨b,_,rfl⟩:=Xd.1 hu;rfl
theorem Ng(l:List UInt32)(i:Nat)(h:i<l.length):(wl l)[i]? =some (fm l[i]):=by simp[wl,h]
theorem wz{l:List UInt32}{n i:Nat}{x:UInt32}(hn:n=i)(h:l[i]? =some x):aw (wl l).toArray n (fm x):=⟨by subst hn;simp[wl,h]⟩
theorem rG{l:List UInt32}{n i:Nat}{x:UInt32}(hn:n=i)(h:i<l.length):bD (wl l).toArray n (fm x) (wl (l.set i x)).toArray:=by
 subst hn;refine⟨?_,by simp[Value.cells];omega⟩;rw[nS rfl];simp[wl,List.map_set]
section
variable {P:Program} {w0:World} {σ:Env} {H:List SA} {d:Option Nat} {ty:TypeId} {pos:String} {aft:Array Edge} {g:Option (Nat×Bool)}
theorem bI{o:Oper}{v v':Value}(h:Qt P w0 H σ o v)(e:v=v'):Qt P w0 H σ o v':=e▸h
theorem dI{t t':TypeId}{x y:Operand}{a b:UInt32}(hx:ev σ x=fm a)(hy:ev σ y=fm b):Qt P w0 H σ ⟨d,.binOp .add t x y t',ty,pos,aft,g⟩ (fm (a+b)):=
 bI (bU hx hy) (by rw[fm,UInt32.toNat_add];simp[IntKind.wrap,IntKind.bits,IntKind.signed])
theorem jT{t t':TypeId}{x y:Operand}{a b:UInt32}(hx:ev σ x=fm a)(hy:ev σ y=fm b):Qt P w0 H σ ⟨d,.binOp .and t x y t',ty,pos,aft,g⟩ (fm (a&&& b)):=
 bI (oh hx hy rfl a.toNat_lt b.toNat_lt) (by rw[fm,UInt32.toNat_and])
theorem sd{t t':TypeId}{x y:Operand}{a b:UInt32}(hx:ev σ x=fm a)(hy:ev σ y=fm b):Qt P w0 H σ ⟨d,.binOp .or t x y t',ty,pos,aft,g⟩ (fm (a|||b)):=
 bI (zP hx hy rfl a.toNat_lt b.toNat_lt) (by rw[fm,UInt32.toNat_or])
theorem eR{t t':TypeId}{x y:Operand}{a b:UInt32}(hx:ev σ x=fm a)(hy:ev σ y=fm b):Qt P w0 H σ ⟨d,.binOp .xor t x y t',ty,pos,aft,g⟩ (fm (a^^^b)):=
 bI (Mb hx hy rfl a.toNat_lt b.toNat_lt) (by rw[fm,UInt32.toNat_xor])
theorem CA{t:TypeId}{x:Operand}{a:UInt32}(hx:ev σ x=fm a):Qt P w0 H σ ⟨d,.unOp .xor t x,ty,pos,aft,g⟩ (fm (~~~a)):=fun w _=>by
 have e:IntKind.u32.wrap ((BitVec.ofInt IntKind.u32.bits IntKind.u32.max^^^BitVec.ofInt IntKind.u32.bits (a.toNat:Int)).toNat:Int)=((~~~a).toNat:Int):=by
   have h1:IntKind.u32.max=((4294967295:Nat):Int):=dc;rw[h1,Fz .u32 rfl dc a.toNat_lt];have h2:(4294967295:Nat)^^^a.toNat=(~~~a).toNat:=by
     have:(~~~a)=(4294967295:UInt32)^^^a:=by
       apply UInt32.toBitVec_inj.1;simp only[UInt32.toBitVec_not,UInt32.toBitVec_xor];rw[show(4294967295:UInt32).toBitVec=BitVec.allOnes 32 from by decide,BitVec.allOnes_xor]
     rw[this,UInt32.toNat_xor];rfl
   rw[h2]
 simp only[execOp,hx,Op.unary,Op.intBits];show Sem.run P (do pure _) w=_;simp only[Sem.run_bind,Sem.run_pure,Result.andThen_ok,fm];rw[←e];rfl
theorem mg{t t':TypeId}{x y:Operand}{k':IntKind}{a:UInt32}(s:Nat)(hx:ev σ x=fm a)(hy:ev σ y= .int k' (s:Int))(hs:s<32):Qt P w0 H σ ⟨d,.binOp .shr t x y t',ty,pos,aft,g⟩ (fm (a>>>UInt32.ofNat s)):=
 bI (pN s hx hy (by show s<=32;omega)) (by
   rw[fm,UInt32.toNat_shiftRight,Yj,Nat.shiftRight_eq_div_pow]
   congr 4
   omega)
theorem px{t t':TypeId}{x y:Operand}{k':IntKind}{a:UInt32}(s:Nat)(hx:ev σ x=fm a)(hy:ev σ y= .int k' (s:Int))(hs:s<32):Qt P w0 H σ ⟨d,.binOp .shl t x y t',ty,pos,aft,g⟩ (fm (a<<<UInt32.ofNat s)):=
 bI (EN hx hy om) (by
   have h1:min (s:Int).toNat IntKind.u32.bits=s:=by simp only[IntKind.bits];omega
   rw[h1,fm,UInt32.toNat_shiftLeft,Yj,Nat.shiftLeft_eq];have h2:s%2^32%32=s:=om;rw[h2];simp only[IntKind.wrap,IntKind.bits,IntKind.signed];simp)
end
def cellsOf(b:Nat)(l:List (Nat×Value)):SA:=⟨[b],fun w=>∀p∈l,w.cell? ⟨b,p.1,none⟩=some p.2,fun w w' h hp p hpl=>by
 rw[←hp p hpl];simp only[World.cell?,h b sm]⟩
theorem St.cellsOf{w0 w:World}{H Hr:List SA}{b T:Nat}{cs:Array Value}{fz:Nat×Nat}{l:List (Nat×Value)}[h:qC b H (.cells cs T fz) Hr](hl:∀p∈l,cs[p.1]? =some p.2)(hw:St w0 H w):St w0 [cellsOf b l] w:=by
 have h1:St w0 (aF b (.cells cs T fz)::Hr) w:=hw.sub h.sub;have h2:=h1.Hq (y:=Sx.cellsOf b l) rfl fun hp p hpl=>by rw[di hp];exact hl p hpl
 exact h2.sub ⟨[Sx.cellsOf b l],List.Perm.refl _,sm⟩
theorem mE{w0 w:World}{b:Nat}{l:List (Nat×Value)}(hw:St w0 [cellsOf b l] w){o:Nat}{v:Value}(h:(o,v)∈l):w.cell? ⟨b,o,none⟩=some v:=hw.holds (cellsOf b l) sm (o,v) h
end Go.Sx
namespace Go.Sx
open Go.RowKit
section
variable {P:Program} {w0:World} {σ:Env} {H:List SA} {d:Option Nat} {ty:TypeId} {pos:String} {aft:Array Edge} {g:Option (Nat×Bool)}
theorem aQ{x i:Operand}{t e b o n sz:Nat}{k:IntKind}{ei:TypeInfo}(off' j:Nat)(hx:ev σ x= .pointer (some ⟨b,o,none⟩))(hi:ev σ i= .int k (j:Int))(ht:P.underlying t=some (.array n e))(he:P.info? e=some ei)(hsz:ei.size=sz)(hn:Nat.blt j n=true)(ho:o+j*sz=off'):Qt P w0 H σ ⟨d,.indexAddr t x i,ty,pos,aft,g⟩ (.pointer (some ⟨b,off',none⟩)):=by
 have:=ct (P:=P) (w0:=w0) (H:=H) (d:=d) (ty:=ty) (pos:=pos) (aft:=aft) (g:=g) hx hi ht he hsz om (by have:j<n:=(by simpa[XO]using hn);omega);rw[XA,ho]at this;exact aeq
end
theorem J6{n:Nat}{h:Vector UInt8 n}{m i:Nat}{c:UInt8}(hm:m=i)(hi:i<n):bD (aX h).toArray m (.int .u8 (c.toNat:Int)) (aX (h.set i c)).toArray:=by
 subst hm;refine⟨?_,by simp[Value.cells];omega⟩;rw[nS rfl];simp[aX,aE,List.map_set,Vector.toList_set,jM]
def jk{n:Nat}(h:Vector UInt8 n)(i:Nat):Vector UInt8 n:=Vector.ofFn fun j=>if j.val<i then h[j]else 0
theorem uh{n:Nat}(h:Vector UInt8 n):jk h 0=zeroV n:=by
 apply Yv;intro i hi;simp[jk,zeroV]
theorem u7{n:Nat}(h:Vector UInt8 n):jk h n=h:=by
 apply Yv;intro i hi;simp[jk,hi]
theorem wi{n:Nat}(h:Vector UInt8 n)(i:Nat)(hi:i<n):(jk h i).set i h[i]=jk h (i+1):=by
 apply Yv;intro j hj;by_cases e:i=j
 · subst e;simp[jk]
 · rw[YJ _ _ e]
   simp only[jk,YF,Fin.getElem_fin];by_cases h1:j<i<;>simp[h1]<;>omega
end Go.Sx
namespace Go.Sx
open Go.RowKit
section
variable {P:Program} {w0:World} {σ:Env} {H Hr:List SA} {d:Option Nat} {ty:TypeId} {pos:String} {aft:Array Edge} {g:Option (Nat×Bool)} {K:Value->List SA->Prop}
theorem DY{x y:Operand}{t e sz bytes n:Nat}{k k':IntKind}(xs:List Value)(hx:ev σ x= .int k (n:Int))(hy:ev σ y= .int k' (n:Int))[ht:jg P t e sz bytes](hxs:∀i z,P.info? e=some i->i.zero=some z->madeCells z.cells (n*sz)=xs.toArray)(hn:n*bytes<=281474976710656)(hc:n*sz<=16777216)(hm:n<=maxLen)
   (hk:∀b,K (.slice (some ⟨b,0,none⟩) n n) (aF b (.cells xs.toArray e (0,0))::H)):Ef P w0 H σ ⟨d,.makeSlice t x y,ty,pos,aft,g⟩ K:=fun w hw=>by
 obtain⟨i,z,hi,hz,hsz,hby,-⟩:=ht.spec;have hm':(n:Int)<=9223372036854775807:=by unfold maxLen at hm;omega
 have hrun:=run_makeSlice (P:=P) w t e i z ht.ht hi hz k k' (n:Int) (n:Int) om om (by rw[hsz];simpa using hc) (by
   rw[hby];have h:(bytes:Int)*(n:Int)=((n*bytes:Nat):Int):=by rw[Int.natCast_mul,Int.mul_comm]
   rw[h];omega) hm'
 rw[hsz,XA,hxs i z hi hz]at hrun;have:(execOp (ev σ) ⟨d,.makeSlice t x y,ty,pos,aft,g⟩).run P w= .ok (.value (.slice (some ⟨w.heap.size,0,none⟩) n n)) (w.alloc (.cells xs.toArray e)):=by
   simp only[execOp,hx,hy,Sem.run_bind,hrun,Result.andThen_ok,Sem.run_pure]
 rw[this];exact⟨_,hk _,hw.alloc _⟩
end
end Go.Sx
end
section
namespace Go.Sx
open Go.RowKit
section
variable {P:Program} {w0:World} {σ:Env} {H Hr:List SA} {d:Option Nat} {ty:TypeId} {pos:String} {aft:Array Edge} {g:Option (Nat×Bool)} {K:Value->List SA->Prop}
end
end Go.Sx
end
