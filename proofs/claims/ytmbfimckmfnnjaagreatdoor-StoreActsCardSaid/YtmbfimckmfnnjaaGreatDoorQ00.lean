/- Steps of the proof of a law. -/
import Derived.WalkKit
import Derived.OrdersHeld
import Derived.KernelRfl
set_option maxRecDepth 100000
set_option maxHeartbeats 1000000
set_option linter.unusedSimpArgs false
set_option linter.unusedVariables false
namespace Go.Sx
open Go.RowKit
abbrev Env:=Nat->Value
def mn(σ:Env)(i:Nat)(v:Value):Env:=fun j=>bif Nat.beq i j then v else σ j
def ev(σ:Env):Operand->Value
 | .tmp t=>σ t
 | .const v=>v
 | .global g=> .pointer (some ⟨g,0,none⟩)
 | .func f=> .func (.func f) #[] #[]
def Mp:Env:=fun _=>undef
structure Fr where
 n:Nat
 ds:List Deferred
def qA(n:Fr)(a:Act)(σ:Env):Prop:=a.tmps.size=n.n/\a.defers=n.ds/\∀t,a.tmps.getD t undef=σ t
theorem qA.eval{n:Fr}{a:Act}{σ:Env}(h:qA n a σ):a.eval=ev σ:=by
 funext x;cases x<;>simp[Act.eval,ev,h.2.2]
theorem qA.put{n:Fr}{a:Act}{σ:Env}{d:Nat}{v:Value}(h:qA n a σ)(hd:Nat.blt d n.n=true):qA n (a.put (some d) v) (mn σ d v):=by
 have hd':d<n.n:=by simpa[Nat.blt_eq]using hd
 refine⟨by simp[Act.put,h.1],by simp[Act.put,h.2.1],fun t=>?_⟩;have h2:=h.2.2 t;have h1:=h.1;simp only[Act.put,mn];by_cases e:d=t
 · subst e
   simp[Array.getD,h1,hd']
 · have e':Nat.beq d t=false:=by
     cases hb:Nat.beq d t
     · rfl
     · exact absurd (Nat.eq_of_beq_eq_true hb) e
   simp only[e',cond_false];rw[←h2];simp only[Array.getD,Array.size_setIfInBounds]
   split
   · rename_i ht
     exact Array.getElem_setIfInBounds_ne ht e
   · rfl
structure SA where
 fp:List Nat
 p:World->Prop
 MH:∀w w':World,(∀b∈fp,w'.heap[b]? =w.heap[b]?)->p w->p w'
structure St(w0:World)(H:List SA)(w:World):Prop where
 below:Below w0.heap.size w0 w
 nodup:(H.flatMap SA.fp).Nodup
 holds:∀x∈H,x.p w
 lo:∀x∈H,∀b∈x.fp,w0.heap.size<=b/\b<w.heap.size
theorem St.refl(w:World):St w [] w:=⟨Below.refl _ _,by simp,by simp,by simp⟩
theorem St.join{w0 w w':World}{H H':List SA}(h:St w0 H w)(h':St w H' w'):St w0 (H'++H) w':=by
 have hsz:=h.below.size;have hsz':=h'.below.size;refine⟨⟨h'.below.os.trans h.below.os,h'.below.tape.trans h.below.tape,h'.below.output.trans h.below.output,Nat.le_trans hsz hsz',
   fun k hk=>(h'.below.block k (by omega)).trans (h.below.block k hk)⟩,?_,?_,?_⟩
 · rw[List.flatMap_append,List.nodup_append]
   refine⟨h'.nodup,h.nodup,?_⟩;intro a ha b hb e;subst e;obtain⟨x,hx,hax⟩:=List.mem_flatMap.1 ha;obtain⟨y,hy,hay⟩:=List.mem_flatMap.1 hb;have:=(h'.lo x hx a hax).1;have:=(h.lo y hy a hay).2;omega
 · intro x hx
   rcases List.mem_append.1 hx with hx|hx
   · exact h'.holds x hx
   · exact x.MH w w' (fun b hb=>h'.below.block b (h.lo x hx b hb).2) (h.holds x hx)
 · intro x hx b hb
   rcases List.mem_append.1 hx with hx|hx
   · have:=h'.lo x hx b hb;omega
   · have:=h.lo x hx b hb;omega
def hE(H' H:List SA):Prop:=∃l,List.Perm l H'/\List.Sublist l H
theorem St.sub{w0 w:World}{H H':List SA}(h:St w0 H w)(hs:hE H' H):St w0 H' w:=by
 obtain⟨l,hp,hsub⟩:=hs;have hin:∀x,x∈H'->x∈H:=fun x hx=>hsub.subset (hp.mem_iff.2 hx);refine⟨h.below,?_,fun x hx=>h.holds x (hin x hx),fun x hx=>h.lo x (hin x hx)⟩;have h1:(l.flatMap SA.fp).Nodup:=by
   have:(l.flatMap SA.fp).Sublist (H.flatMap SA.fp):=by
     clear hp h hin
     induction hsub with
     |slnil=>exact .slnil
     |cons a _ ih=>exact ih.trans (by simp[List.flatMap_cons])
     |cons_cons a _ ih=>simp only[List.flatMap_cons];exact List.Sublist.append (List.Sublist.refl _) ih
   exact h.nodup.sublist this
 exact((hp.flatMap_right SA.fp).nodup_iff).1 h1
theorem St.drew{w0 w:World}{H:List SA}(h:St w0 H w):St w0 H w.drew:=
 ⟨⟨h.below.os,h.below.tape,h.below.output,h.below.size,h.below.block⟩,h.nodup,fun x hx=>x.MH w _ (fun _ _=>rfl) (h.holds x hx),h.lo⟩
theorem St.swap{w0 w w':World}{x x':SA}{H:List SA}(h:St w0 (x::H) w)(hos:w'.os=w.os)(htape:w'.tape=w.tape)(hout:w'.output=w.output)
   (hsz:w.heap.size<=w'.heap.size)(hb:∀k,k<w.heap.size->k∉x.fp->w'.heap[k]? =w.heap[k]?)(hp:x'.p w')(hn:x'.fp.Nodup)
   (hfp:∀b∈x'.fp,(b∈x.fp∨w.heap.size<=b)/\b<w'.heap.size):St w0 (x'::H) w':=by
 have hnd:=h.nodup;simp only[List.flatMap_cons,List.nodup_append]at hnd;refine⟨⟨hos.trans h.below.os,htape.trans h.below.tape,hout.trans h.below.output,Nat.le_trans h.below.size hsz,fun k hk=>?_⟩,?_,?_,?_⟩
 · have hlt:=h.below.size
   rw[hb k (by omega) (fun hx=>by have:=(h.lo x (by simp) k hx).1;omega)];exact h.below.block k hk
 · simp only[List.flatMap_cons,List.nodup_append]
   refine⟨hn,hnd.2.1,?_⟩;intro a ha b hb' e;subst e;obtain⟨y,hy,hay⟩:=List.mem_flatMap.1 hb';rcases(hfp a ha).1 with hx|hx
   · exact hnd.2.2 a hx a hb' rfl
   · have:=(h.lo y (by simp[hy]) a hay).2;omega
 · intro y hy
   rcases List.mem_cons.1 hy with rfl|hy
   · exact hp
   · refine y.MH w w' (fun b hb'=>hb b (h.lo y (by simp[hy]) b hb').2 (fun hx=>?_)) (h.holds y (by simp[hy]))
     exact hnd.2.2 b hx b (List.mem_flatMap.2 ⟨y,hy,hb'⟩) rfl
 · intro y hy b hb'
   have hlt:=h.below.size;rcases List.mem_cons.1 hy with rfl|hy
   · refine⟨?_,(hfp b hb').2⟩
     rcases(hfp b hb').1 with hx|hx
     · exact(h.lo x (by simp) b hx).1
     · omega
   · have:=h.lo y (by simp[hy]) b hb';omega
theorem St.fresh{w0 w w':World}{x':SA}{H:List SA}(h:St w0 H w)(hos:w'.os=w.os)(htape:w'.tape=w.tape)(hout:w'.output=w.output)
   (hsz:w.heap.size<=w'.heap.size)(hb:∀k,k<w.heap.size->w'.heap[k]? =w.heap[k]?)(hp:x'.p w')(hn:x'.fp.Nodup)
   (hfp:∀b∈x'.fp,w.heap.size<=b/\b<w'.heap.size):St w0 (x'::H) w':=by
 have:=St.join h (H':=[x']) (w':=w') ⟨⟨hos,htape,hout,hsz,hb⟩,by simpa using hn,by simpa using hp,by simpa using hfp⟩;simpa using this
def aF(b:Nat)(o:Obj):SA:=⟨[b],fun w=>w.heap[b]? =some o,fun w w' h hp=>by rw[h b (by simp)];exact hp⟩
def pu(p:Prop):SA:=⟨[],fun _=>p,fun _ _ _ h=>h⟩
theorem St.pure{w0 w:World}{H:List SA}{p:Prop}(h:St w0 (pu p::H) w):p:=h.holds (pu p) (by simp)
theorem St.tail{w0 w:World}{x:SA}{H:List SA}(h:St w0 (x::H) w):St w0 H w:=h.sub ⟨H,List.Perm.refl _,List.sublist_cons_self _ _⟩
theorem St.aC{w0 w:World}{H:List SA}{p:Prop}(h:St w0 H w)(hp:p):St w0 (pu p::H) w:=
 h.fresh rfl rfl rfl (Nat.le_refl _) (fun _ _=>rfl) hp (by simp[pu]) (by simp[pu])
theorem St.alloc{w0 w:World}{H:List SA}(h:St w0 H w)(o:Obj):St w0 (aF w.heap.size o::H) (w.alloc o):=
 h.fresh rfl rfl rfl (by simp) (fun k hk=>heap_alloc_old w o hk) (heap_alloc_new w o) (by simp[aF]) (by simp[aF])
abbrev iM:=Exit->Env->World->Prop
def lift(n:Fr)(Q:iM):Exit->Act->World->Prop
 | .panic c,a,w=>a.defers=n.ds/\Q (.panic c) Mp w
 | .outgrown,_,_=>False
 |e,a,w=>∃σ,qA n a σ/\Q e σ w
section
variable (P:Program) (n:Fr) (w0:World)
def T(c:Code)(σ:Env)(H:List SA)(Q:iM):Prop:=∀a w,qA n a σ->St w0 H w->c.wp P (lift n Q) a w
def TL(all:Array Oper)(l:List Oper)(σ:Env)(H:List SA)(Q:iM):Prop:=∀a w,qA n a σ->St w0 H w->wpList P all (lift n Q) l a w
def X(e:Exit)(Q:iM)(σ:Env)(H:List SA):Prop:=∀w,St w0 H w->Q e σ w
end
def qp(P:Program)(n:Fr)(w0:World)(y:Code)(Q:iM):iM:=fun e σ w=>match e with
 | .normal=>∀a,qA n a σ->y.wp P (lift n Q) a w
 |e=>Q e σ w
def pF(id:Nat)(Q:iM):iM:=fun e σ w=>match e with
 | .exit j=>bif Nat.beq j id then Q .normal σ w else Q (.exit j) σ w
 |e=>Q e σ w
variable {P:Program} {n:Fr} {w0:World} {σ:Env} {H:List SA} {Q:iM}
theorem jK{x y:Code}(h:T P n w0 x σ H (qp P n w0 y Q)):T P n w0 (.seq x y) σ H Q:=fun a w ha hw=>by
 refine wp_seq (wp_mono (h a w ha hw) fun e a w hq=>?_);cases e with
 |normal=>obtain⟨σ',h1,h2⟩:=hq;exact h2 a h1
 |_=>exact hq
theorem oe(h:X w0 .normal Q σ H):T P n w0 .skip σ H Q:=fun _ w ha hw=>wp_skip ⟨σ,ha,h w hw⟩
theorem ti{id:Nat}(h:X w0 (.exit id) Q σ H):T P n w0 (.exit id) σ H Q:=fun _ w ha hw=>wp_exit ⟨σ,ha,h w hw⟩
theorem xY(h:X w0 .ret Q σ H):T P n w0 .ret σ H Q:=fun _ w ha hw=>wp_ret ⟨σ,ha,h w hw⟩
theorem sx{id:Nat}{c:Code}(h:T P n w0 c σ H (pF id Q)):T P n w0 (.block id c) σ H Q:=fun a w ha hw=>by
 refine wp_block (wp_mono (h a w ha hw) fun e a w hq=>?_);cases e with
 |exit j=>
   obtain⟨σ',h1,h2⟩:=hq;simp only[pF]at h2;simp only[Exit.inBlock];by_cases e:j=id
   · subst e
     have:Nat.beq j j=true:=Nat.beq_refl j;simp only[this,cond_true]at h2;simp only[if_true];exact⟨σ',h1,h2⟩
   · have:Nat.beq j id=false:=by
       cases hb:Nat.beq j id
       · rfl
       · exact absurd (Nat.eq_of_beq_eq_true hb) e
     simp only[this,cond_false]at h2;simp only[e,if_false];exact⟨σ',h1,h2⟩
 |_=>exact hq
theorem aI{c:Operand}{x y:Code}{b:Bool}(hc:ev σ c= .bool b)(hb:b=true)(h:T P n w0 x σ H Q):T P n w0 (.cond c x y) σ H Q:=fun a w ha hw=>
 wp_cond_true (by rw[ha.eval,hc,hb]) (h a w ha hw)
theorem bM{c:Operand}{x y:Code}{b:Bool}(hc:ev σ c= .bool b)(hb:b=false)(h:T P n w0 y σ H Q):T P n w0 (.cond c x y) σ H Q:=fun a w ha hw=>
 wp_cond_false (by rw[ha.eval,hc,hb]) (h a w ha hw)
theorem qK{c:Operand}{x y:Code}{b:Bool}(hc:ev σ c= .bool b)(h1:b=true->T P n w0 x σ H Q)(h2:b=false->T P n w0 y σ H Q):T P n w0 (.cond c x y) σ H Q:=by
 cases b
 · exact bM hc rfl (h2 rfl)
 · exact aI hc rfl (h1 rfl)
theorem ey{id:Nat}{l:List Oper}(h:TL P n w0 l.toArray l σ H Q):T P n w0 (.region id l.toArray false) σ H Q:=fun a w ha hw=>
 wp_region_lit (h a w ha hw)
theorem fJ{all:Array Oper}(h:X w0 .normal Q σ H):TL P n w0 all [] σ H Q:=fun _ w ha hw=>wpList_nil ⟨σ,ha,h w hw⟩
theorem eS{y:Code}(h:T P n w0 y σ H Q):X w0 .normal (qp P n w0 y Q) σ H:=fun w hw a ha=>h a w ha hw
theorem kh{y:Code}{j:Nat}(h:X w0 (.exit j) Q σ H):X w0 (.exit j) (qp P n w0 y Q) σ H:=h
theorem nD{y:Code}(h:X w0 .ret Q σ H):X w0 .ret (qp P n w0 y Q) σ H:=h
theorem mv{id:Nat}(h:X w0 .normal Q σ H):X w0 .normal (pF id Q) σ H:=h
theorem oY{id:Nat}(h:X w0 .ret Q σ H):X w0 .ret (pF id Q) σ H:=h
theorem jw{id:Nat}(h:X w0 .normal Q σ H):X w0 (.exit id) (pF id Q) σ H:=fun w hw=>by
 have:Nat.beq id id=true:=Nat.beq_refl id;simp only[pF,this,cond_true];exact h w hw
theorem fU{id j:Nat}(hj:Nat.beq j id=false)(h:X w0 (.exit j) Q σ H):X w0 (.exit j) (pF id Q) σ H:=fun w hw=>by
 simp only[pF,hj,cond_false];exact h w hw
theorem aV{all:Array Oper}{l:List Oper}{p:Prop}(h:p->TL P n w0 all l σ H Q):TL P n w0 all l σ (pu p::H) Q:=fun a w ha hw=>h hw.pure a w ha hw.tail
theorem ez{all:Array Oper}{l:List Oper}{H':List SA}(hs:∀w,St w0 H w->St w0 H' w)(h:TL P n w0 all l σ H' Q):TL P n w0 all l σ H Q:=fun a w ha hw=>h a w ha (hs w hw)
def Qt(P:Program)(w0:World)(H:List SA)(σ:Env)(o:Oper)(v:Value):Prop:=∀w,St w0 H w->(execOp (ev σ) o).run P w= .ok (.value v) w
def upon(P:Program)(K:Value->World->Prop):Result Next->Prop
 | .ok (.value v) w'=>K v w'
 | .ok .skip w'=>K undef w'
 | .ok (.enter f args) w'=>Calls P f args w' fun e w''=>∃v,e= .returned v/\K v w''
 |_=>False
def Ef(P:Program)(w0:World)(H:List SA)(σ:Env)(o:Oper)(K:Value->List SA->Prop):Prop:=
 ∀w,St w0 H w->upon P (fun v w'=>∃H',K v H'/\St w0 H' w') ((execOp (ev σ) o).run P w)
theorem Ef.wp{o:Oper}{K:Value->List SA->Prop}(h:Ef P w0 H σ o K){a:Act}{w:World}(ha:qA n a σ)(hw:St w0 H w){N:Act->World->Prop}{Q':Exit->Act->World->Prop}
   (hK:∀v H' w',K v H'->St w0 H' w'->N (a.put o.dst v) w'):o.wp P a w N Q':=by
 have h1:=h w hw;unfold Oper.wp;rw[ha.eval];generalize (execOp (ev σ) o).run P w=r at h1;cases r with
 |halt x w'=>simp[upon]at h1
 |ok nx w'=>
   cases nx<;>simp only[upon,reduceCtorEq]at h1<;>simp only[Oper.upon]
   case value v=>obtain⟨H',hk,hs⟩:=h1;exact hK _ _ _ hk hs
   case skip=>obtain⟨H',hk,hs⟩:=h1;exact hK _ _ _ hk hs
   case enter f args=>
     refine h1.mono fun e w'' ⟨v,he,H',hk,hs⟩=>?_;subst he;exact hK _ _ _ hk hs
theorem dW{o:Oper}{v:Value}{K:Value->List SA->Prop}(h:Qt P w0 H σ o v)(hk:K v H):Ef P w0 H σ o K:=fun w hw=>by
 rw[h w hw];exact⟨H,hk,hw⟩
section
variable {all:Array Oper} {rest:List Oper} {d:Nat} {op:Op} {ty:TypeId} {pos:String} {aft:Array Edge}
theorem cD{v:Value}(hq:Qt P w0 H σ ⟨some d,op,ty,pos,aft,none⟩ v)(hd:Nat.blt d n.n=true)(h:TL P n w0 all rest (mn σ d v) H Q):TL P n w0 all (⟨some d,op,ty,pos,aft,none⟩::rest) σ H Q:=fun a w ha hw=>
 wpList_step fun N hN=>by
   rw[if_pos (by rfl)];exact(dW (K:=fun v' H'=>v'=v/\H'=H) hq ⟨rfl,rfl⟩).wp ha hw fun v' H' w' ⟨hv,hH⟩ hs=>by
     subst hv;subst hH;exact hN _ _ (h _ w' (ha.put hd) hs)
theorem Nh(hd:Nat.blt d n.n=true)(h:Ef P w0 H σ ⟨some d,op,ty,pos,aft,none⟩ fun v H'=>TL P n w0 all rest (mn σ d v) H' Q):TL P n w0 all (⟨some d,op,ty,pos,aft,none⟩::rest) σ H Q:=fun a w ha hw=>
 wpList_step fun N hN=>by
   rw[if_pos (by rfl)];exact h.wp ha hw fun v' H' w' hk hs=>hN _ _ (hk _ w' (ha.put hd) hs)
theorem Nb(h:Ef P w0 H σ ⟨none,op,ty,pos,aft,none⟩ fun _ H'=>TL P n w0 all rest σ H' Q):TL P n w0 all (⟨none,op,ty,pos,aft,none⟩::rest) σ H Q:=fun a w ha hw=>
 wpList_step fun N hN=>by
   rw[if_pos (by rfl)];exact h.wp ha hw fun v' H' w' hk hs=>hN _ _ (hk _ w' ha hs)
theorem iZ{dst:Option Nat}{j s:Nat}{want b:Bool}(hs:(all[j]?).bind (·.dst)=some s)(hb:σ s= .bool b)(hbw:b=want)
   (h:TL P n w0 all (⟨dst,op,ty,pos,aft,none⟩::rest) σ H Q):TL P n w0 all (⟨dst,op,ty,pos,aft,some (j,want)⟩::rest) σ H Q:=fun a w ha hw=>by
 have h1:=h a w ha hw;have hy:yielded all a.tmps j=some want:=by
   have hb':=ha.2.2 s;rw[hb]at hb';have hlt:s<a.tmps.size:=by
     rcases Nat.lt_or_ge s a.tmps.size with h'|h'
     · exact h'
     · simp[Array.getD,Nat.not_lt.2 h',undef]at hb'
   simp[Array.getD,hlt]at hb';simp[yielded,hs,hlt,hb',hbw]
 simp only[wpList,Region.wanted,hy]at h1 ⊢;simp only[beq_self_eq_true,if_true]at h1 ⊢;exact h1
theorem k4{j s:Nat}{want b:Bool}(hs:(all[j]?).bind (·.dst)=some s)(hb:σ s= .bool b)(hbw:b= !want)(hd:Nat.blt d n.n=true)
   (h:TL P n w0 all rest (mn σ d undef) H Q):TL P n w0 all (⟨some d,op,ty,pos,aft,some (j,want)⟩::rest) σ H Q:=fun a w ha hw=>by
 have h1:=h (a.put (some d) undef) w (ha.put hd) hw;have hy:yielded all a.tmps j=some (!want):=by
   have hb':=ha.2.2 s;rw[hb]at hb';have hlt:s<a.tmps.size:=by
     rcases Nat.lt_or_ge s a.tmps.size with h'|h'
     · exact h'
     · simp[Array.getD,Nat.not_lt.2 h',undef]at hb'
   simp[Array.getD,hlt]at hb';simp[yielded,hs,hlt,hb',hbw]
 simp only[wpList,Region.wanted,hy]at h1 ⊢;rw[if_neg (by cases want<;>simp)];exact h1
end
def qs(ops:Array Oper):List (Nat×Bool)->Array Bool->Bool
 |[],listed=>(Region.ready .any ops listed).isEmpty
 |(i,true)::r,listed=>(Region.ready .any ops listed).contains i&&Region.free .any ops listed i&&qs ops r (listed.setIfInBounds i true)
 |(i,false)::r,listed=>(Region.ready .any ops listed==[i])&&qs ops r (listed.setIfInBounds i true)
def DL(P:Program)(n:Fr)(w0:World)(S:List SA)(ops:Array Oper)(ord:List (Nat×Bool))(σ:Env)(H:List SA)(Q:iM):Prop:=
 ∀a w,qA n a σ->St w0 H w->St w0 S w->∀fuel listed,ord.length=fuel->qs ops ord listed=true->wpAnyH P .any ops (lift n Q) (St w0 S) fuel listed a w
theorem vC{id:Nat}{l:List Oper}(S:List SA)(ord:List (Nat×Bool))(hm:P.follows .mixedOrders=true)(hns:Region.noSelect l.toArray=true)(hlen:ord.length=l.length)
   (hok:qs l.toArray ord (Array.replicate l.length false)=true)(hS:∀w,St w0 H w->St w0 S w)
   (h:Region.noSelect l.toArray=true->DL P n w0 S l.toArray ord σ H Q):T P n w0 (.region id l.toArray true) σ H Q:=fun a w ha hw=>by
 have hw':=hw.drew;refine wp_region_held (S:=St w0 S) hm ?_;exact h hns a _ ha hw' (hS _ hw') _ _ (by simpa using hlen) (by simpa using hok)
theorem gz{S:List SA}{ops:Array Oper}(h:X w0 .normal Q σ H):DL P n w0 S ops [] σ H Q:=fun a w ha hw _ fuel listed hf hok=>by
 subst hf;exact wpAnyH_done (by simpa[qs]using hok) ⟨σ,ha,h w hw⟩ _
section
variable {S:List SA} {ops:Array Oper} {i d:Nat} {r:List (Nat×Bool)} {op:Op} {ty:TypeId} {pos:String} {aft:Array Edge}
theorem sq{o:Oper}{v:Value}{σ':Env}(hns:Region.noSelect ops=true)(hi:ops[i]? =some o)(hy:∀a,qA n a σ->YieldsIf P ops (St w0 S) o v a)
   (hput:∀a,qA n a σ->qA n (a.put o.dst v) σ')(h:DL P n w0 S ops r σ' H Q):DL P n w0 S ops ((i,true)::r) σ H Q:=fun a w ha hw hS fuel listed hf hok=>by
 subst hf;simp only[qs,Bool.and_eq_true]at hok;refine wpAnyH_take hi hns hok.1.2 hok.1.1 ?_ (hy a ha) hS (h _ _ (hput a ha) hw hS _ _ rfl hok.2);intro c a' w' hq;refine⟨?_,hq.2⟩;have:=hq.1;simp only[Act.put]at this;cases hd:o.dst<;>simp[hd]at this<;>exact this
theorem jf{v:Value}(hns:Region.noSelect ops=true)(hi:ops[i]? =some ⟨some d,op,ty,pos,aft,none⟩)(hq:Qt P w0 S σ ⟨some d,op,ty,pos,aft,none⟩ v)(hd:Nat.blt d n.n=true)
   (h:DL P n w0 S ops r (mn σ d v) H Q):DL P n w0 S ops ((i,true)::r) σ H Q:=
 sq hns hi (fun a ha=> .inl ⟨rfl,fun w hw=>by rw[ha.eval];exact hq w hw⟩) (fun a ha=>ha.put hd) h
theorem ou{a:Act}{j s:Nat}{b:Bool}(ha:qA n a σ)(hs:(ops[j]?).bind (·.dst)=some s)(hb:σ s= .bool b):yielded ops a.tmps j=some b:=by
 have hb':=ha.2.2 s;rw[hb]at hb';have hlt:s<a.tmps.size:=by
   rcases Nat.lt_or_ge s a.tmps.size with h'|h'
   · exact h'
   · simp[Array.getD,Nat.not_lt.2 h',undef]at hb'
 simp[Array.getD,hlt]at hb';simp[yielded,hs,hlt,hb']
theorem bB{v:Value}{j s:Nat}{want b:Bool}(hns:Region.noSelect ops=true)(hi:ops[i]? =some ⟨some d,op,ty,pos,aft,some (j,want)⟩)(hs:(ops[j]?).bind (·.dst)=some s)(hb:σ s= .bool b)(hbw:b=want)
   (hq:Qt P w0 S σ ⟨some d,op,ty,pos,aft,none⟩ v)(hd:Nat.blt d n.n=true)
   (h:DL P n w0 S ops r (mn σ d v) H Q):DL P n w0 S ops ((i,true)::r) σ H Q:=
 sq hns hi (fun a ha=> .inl ⟨by simp only[Region.wanted,ou ha hs hb,hbw,beq_self_eq_true],fun w hw=>by rw[ha.eval];exact hq w hw⟩) (fun a ha=>ha.put hd) h
theorem br{j s:Nat}{want b:Bool}(hns:Region.noSelect ops=true)(hi:ops[i]? =some ⟨some d,op,ty,pos,aft,some (j,want)⟩)(hs:(ops[j]?).bind (·.dst)=some s)(hb:σ s= .bool b)(hbw:b= !want)
   (hd:Nat.blt d n.n=true)(h:DL P n w0 S ops r (mn σ d undef) H Q):DL P n w0 S ops ((i,true)::r) σ H Q:=
 sq hns hi (fun a ha=> .inr ⟨by simp only[Region.wanted,ou ha hs hb,hbw];cases want<;>rfl,rfl⟩) (fun a ha=>ha.put hd) h
theorem Af{o:Oper}(hi:ops[i]? =some o)(hwant:∀a,qA n a σ->Region.wanted o (yielded ops a.tmps)=true)
   (h:Ef P w0 H σ o fun v H'=>(∀w,St w0 H' w->St w0 S w)/\∃σ',(∀a,qA n a σ->qA n (a.put o.dst v) σ')/\DL P n w0 S ops r σ' H' Q):DL P n w0 S ops ((i,false)::r) σ H Q:=fun a w ha hw hS fuel listed hf hok=>by
 subst hf;simp only[qs,Bool.and_eq_true,beq_iff_eq]at hok;refine wpAnyH_all hok.1 (by simp) fun j hj=>?_;obtain rfl:j=i:=by simpa using hj
 unfold wpOp;simp only[hi,hwant a ha,if_true];exact .inl (h.wp ha hw fun v H' w' ⟨h1,σ',h2,h3⟩ hs=>⟨h1 _ hs,h3 _ _ (h2 a ha) hs (h1 _ hs) _ _ rfl hok.2⟩)
theorem cX(hi:ops[i]? =some ⟨some d,op,ty,pos,aft,none⟩)(hd:Nat.blt d n.n=true)
   (h:Ef P w0 H σ ⟨some d,op,ty,pos,aft,none⟩ fun v H'=>(∀w,St w0 H' w->St w0 S w)/\DL P n w0 S ops r (mn σ d v) H' Q):DL P n w0 S ops ((i,false)::r) σ H Q:=
 Af hi (fun _ _=>rfl) fun w hw=>by
   have:=h w hw
   revert this
   generalize (execOp (ev σ) _).run P w=res;cases res with
   |halt _ _=>exact id
   |ok nx w'=>
     cases nx<;>simp only[upon]<;>try exact id
     case value v=>exact fun⟨H',⟨h1,h2⟩,hs⟩=>⟨H',⟨h1,_,fun a ha=>ha.put hd,h2⟩,hs⟩
     case skip=>exact fun⟨H',⟨h1,h2⟩,hs⟩=>⟨H',⟨h1,_,fun a ha=>ha.put hd,h2⟩,hs⟩
     case enter f args=>exact fun hc=>hc.mono fun e w'' ⟨v,he,H',⟨h1,h2⟩,hs⟩=>⟨v,he,H',⟨h1,_,fun a ha=>ha.put hd,h2⟩,hs⟩
theorem gS(hi:ops[i]? =some ⟨none,op,ty,pos,aft,none⟩)
   (h:Ef P w0 H σ ⟨none,op,ty,pos,aft,none⟩ fun _ H'=>(∀w,St w0 H' w->St w0 S w)/\DL P n w0 S ops r σ H' Q):DL P n w0 S ops ((i,false)::r) σ H Q:=
 Af hi (fun _ _=>rfl) fun w hw=>by
   have:=h w hw
   revert this
   generalize (execOp (ev σ) _).run P w=res;cases res with
   |halt _ _=>exact id
   |ok nx w'=>
     cases nx<;>simp only[upon]<;>try exact id
     case value v=>exact fun⟨H',⟨h1,h2⟩,hs⟩=>⟨H',⟨h1,_,fun a ha=>ha,h2⟩,hs⟩
     case skip=>exact fun⟨H',⟨h1,h2⟩,hs⟩=>⟨H',⟨h1,_,fun a ha=>ha,h2⟩,hs⟩
     case enter f args=>exact fun hc=>hc.mono fun e w'' ⟨v,he,H',⟨h1,h2⟩,hs⟩=>⟨v,he,H',⟨h1,_,fun a ha=>ha,h2⟩,hs⟩
end
theorem om {p : Prop} (h : p := by omega) : p := h
theorem kr {p : Prop} (h : p := by kernel_rfl) : p := h
theorem dc {p : Prop} (h : p := by decide) : p := h
theorem sm {p : Prop} (h : p := by simp) : p := h
theorem so {p : Prop} (h : p := by simp; omega) : p := h
theorem er {p : Prop} (h : p := by exact rfl) : p := h
abbrev WX := @List.length_append
abbrev WZ := @List.length_map
abbrev WW := @List.getElem?_eq_getElem
abbrev W8 := @Nat.le_refl
abbrev W1 := @List.getElem_mem
abbrev W4 := @List.append_assoc
abbrev W5 := @Bool.eq_iff_iff
abbrev WY := @List.getElem?_append
abbrev Xd := @List.mem_map
abbrev W6 := @Bool.not_eq_false
abbrev W9 := @Bool.not_eq_true
abbrev Xg := @List.mem_cons
abbrev XJ := @Eq.symm
abbrev Xc := @List.mem_append
abbrev Xb := @List.mem_singleton
abbrev Xe := @List.length_drop
abbrev Xh := @List.nil_append
abbrev Xv := @Nat.zero_le
abbrev Xi := @List.map_append
abbrev W7 := @List.take_of_length_le
abbrev Xa := @List.mem_cons_of_mem
abbrev Xj := @List.length_take
abbrev Xn := @List.append_nil
abbrev Xt := @List.map_cons
abbrev Xm := @Bool.false_eq_true
abbrev Xq := @List.length_cons
abbrev XX := @Array.ext
abbrev Xs := @Bool.eq_false_iff
abbrev XO := @Nat.blt_eq
abbrev XD := @List.take_zero
abbrev Xl := @Int.eq_ofNat_of_zero_le
abbrev Xz := @Bool.and_eq_true
abbrev Xo := @List.mem_append_right
abbrev Xw := @List.flatMap_cons
abbrev Xp := @Nat.mul_le_mul_right
abbrev Xk := @Array.getElem?_eq_some_iff
abbrev XA := @Int.toNat_natCast
abbrev XY := @Nat.add_mul
abbrev XI := @List.drop_zero
abbrev XE := @List.take_length
abbrev XQ := @Nat.zero_add
abbrev Xx := @List.mem_append_left
abbrev Xf := @List.take_succ_eq_append_getElem
abbrev X3 := @Nat.pow_succ
abbrev XG := @List.cons_append
abbrev XK := @Option.map_some
abbrev X6 := @List.map_nil
abbrev X7 := @Nat.lt_or_ge
abbrev XF := @List.mem_cons_self
abbrev XB := @List.length_singleton
abbrev XC := @List.take_append_drop
abbrev Xu := @List.drop_eq_getElem_cons
abbrev Xr := @List.eq_nil_of_length_eq_zero
abbrev Yv := @Vector.ext
abbrev X9 := @Nat.add_assoc
abbrev X2 := @List.drop_drop
abbrev XN := @Nat.mod_eq_of_lt
abbrev Yk := @Nat.le_trans
abbrev Yp := @Nat.mul_one
abbrev XP := @List.getElem_map
abbrev Xy := @List.getD_eq_getElem?_getD
abbrev Yn := @Nat.mul_comm
abbrev Yo := @List.map_map
abbrev XR := @List.getElem?_take
abbrev XZ := @List.getElem?_map
abbrev X0 := @List.foldl_append
abbrev Ya := @Nat.not_lt_zero
abbrev XL := @Nat.le_of_ble_eq_true
abbrev XH := @Option.isSome_iff_exists
abbrev X5 := @List.size_toArray
abbrev Yc := @List.all_eq_true
abbrev Yg := @List.mem_filter
abbrev XU := @List.getElem_of_mem
abbrev XM := @List.filterMap_append
abbrev YZ := @Nat.mod_lt
abbrev XT := @List.getElem?_eq_none
abbrev XW := @Vector.length_toList
abbrev Yh := @Nat.le_add_right
abbrev Yz := @Nat.mul_le_mul
abbrev Ye := @UInt8.toNat_ofNat'
abbrev Ys := @List.foldl_cons
abbrev Yt := @Option.map_none
abbrev Yb := @List.flatMap_append
abbrev X8 := @Nat.pow_le_pow_right
abbrev Yu := @List.range_succ
abbrev XV := @List.drop_of_length_le
abbrev Yq := @Option.some.injEq
abbrev YB := @List.nodup_cons
abbrev YK := @List.mem_range
abbrev Yj := @UInt32.toNat_ofNat'
abbrev Yd := @List.mem_of_mem_take
abbrev Yl := @Vector.getElem_set
abbrev X1 := @List.length_filterMap_le
abbrev YC := @Option.some.inj
abbrev YM := @List.find?_cons
abbrev YN := @UInt8.toNat_inj
abbrev Yw := @List.getElem?_drop
abbrev Ym := @BitVec.ofInt_natCast
abbrev Yx := @BitVec.toNat_ofNat
abbrev YQ := @List.drop_left
abbrev Y8 := @Nat.sub_self
abbrev Yf := @Option.map_eq_some_iff
abbrev YA := @List.take_add_one
abbrev YO := @Bool.not_eq_true'
abbrev Y5 := @List.take_left
abbrev YD := @List.map_congr_left
abbrev YE := @List.filter_toArray
abbrev YH := @Nat.eq_zero_or_pos
abbrev YF := @Vector.getElem_ofFn
abbrev X4 := @List.take_append_of_le_length
abbrev YT := @Nat.div_le_self
abbrev YP := @List.filter_cons
abbrev Y0 := @List.Sublist.refl
abbrev Y1 := @Array.size_append
abbrev Y2 := @Decidable.not_not
abbrev YI := @List.getElem?_toArray
abbrev Y6 := @List.map_toArray
abbrev YL := @List.drop_eq_nil_iff
abbrev Yy := @List.getElem_append_left
abbrev Y7 := @List.mem_flatMap
abbrev YJ := @Vector.getElem_set_ne
abbrev YG := @Nat.div_div_eq_div_mul
abbrev Y3 := @List.nodup_append
abbrev Yi := @List.drop_append_of_le_length
abbrev YR := @List.find?_eq_none
abbrev Y4 := @List.pairwise_map
abbrev YS := @List.filter_append
abbrev Yr := @Classical.byContradiction
abbrev YU := @Nat.eq_of_beq_eq_true
abbrev YV := @List.length_replicate
abbrev YW := @ByteArray.size_append
abbrev YX := @Array.getElem?_modify
abbrev YY := @Array.getElem?_toList
structure Y9 (p:Prop):Prop where
 x:p
section
variable{A B p:Prop}
theorem aag(h:B)(k:Y9 B->A:=by intro hh;refine zN (zs rfl rfl ((gG hh.x)))):A:=k ⟨h⟩
theorem aah(h:p:=by first|(refine XJ (Xs.2 fun hf=>?_);have hf1:=(aD v.abs).1 hf;simp only[within_iff,aL,af.abs]at*;first|omega|simp_all)|(refine XJ ((aD v.abs).2 ?_);simp only[within_iff,aL,af.abs,W6,W9]at*;refine⟨om,om,om,om,om,fun h=>?_,fun h=>?_⟩<;>first|omega|simp_all)|(rw[W5,aD];simp only[within_iff,aL,af.abs,decide_eq_true_eq,W6,W9]at*;constructor;(intro hd;refine⟨om,om,om,om,om,fun h=>?_,fun h=>?_⟩<;>first|omega|(simp_all;done)|(simp_all;omega));(rintro⟨-,-,-,-,-,-,h7⟩;have:=h7 om;simp_all))):p:=h
theorem aai(h:p:=by exact zX () [_] results151 ⟨rfl,trivial⟩ (congrArg Value.bool (by first|(unfold aK;simp_all;done)|(unfold aK;simp_all;omega)|(unfold aK;rw[if_pos om];simp_all)|(unfold aK;rw[if_neg om];simp_all<;>omega)|(symm;unfold aK;rw[if_neg om];exact decide_eq_false om)|(unfold aK;rw[if_neg om,W5];simp only[decide_eq_true_eq];omega))) SB):p:=h
theorem aaj(h:p:=by first|(refine XJ (Xs.2 fun hf=>?_);have hf1:=(aD v.abs).1 hf;simp only[within_iff,aL,af.abs]at*;first|omega|simp_all)|(refine XJ ((aD v.abs).2 ?_);simp only[within_iff,aL,af.abs,W6,W9]at*;refine⟨om,om,om,om,om,fun h=>?_,fun h=>?_⟩<;>first|omega|simp_all)|(rw[W5,aD];simp only[within_iff,aL,af.abs,decide_eq_true_eq,W6,W9]at*;constructor;(intro hd;refine⟨om,om,om,om,om,fun h=>?_,fun h=>?_⟩<;>first|omega|simp_all);(rintro⟨-,-,-,-,-,-,h7⟩;have:=h7 om;simp_all))):p:=h
theorem aak(h:p:=by exact zX () [_] results228 ⟨rfl,trivial⟩ (congrArg Value.bool (by first|(unfold bh;rw[W5];exact⟨fun h=>decide_eq_true ⟨⟨by show 0<=r.aG;omega,by show r.aG<6;omega⟩,⟨by show 1<=r.seq;omega,by show r.seq<=8;omega⟩,p28,by show r.sig.l.length<=1000;have:=of_decide_eq_true h;omega⟩,fun h=>decide_eq_true (by have h:=(of_decide_eq_true h).2.2.2;have h:r.sig.l.length<=1000:=h;omega)⟩)|(unfold bh;simp only[aJ.abs];simp_all;done)|(unfold bh;simp only[aJ.abs];simp_all;omega)|(symm;unfold bh;exact decide_eq_false (by simp only[aJ.abs];rintro⟨⟨h1,h2⟩,-⟩;omega))|(symm;unfold bh;exact decide_eq_false (by simp only[aJ.abs];rintro⟨-,⟨h1,h2⟩,-⟩;omega))|(symm;unfold bh;exact decide_eq_false (by rintro⟨⟨h1,h2⟩,⟨h3,h4⟩,h5,h6⟩;dsimp only[aJ.abs]at h1 h2 h3 h4 h5 h6;first|omega|(simp_all;done)|(simp_all;omega))))) SB):p:=h
theorem aan(h:p:=by first|exact zX (⟨false,at_,oa,oc,out,fo,t.nx,t.bg⟩:sF) [_] results126 ⟨rfl,trivial⟩ rfl (aP (.inl ⟨rfl,lY (h13.2 (by simpa using h20)),rfl,rfl,rfl,rfl⟩) SB)|exact zX (⟨false,at_,oa,oc,out,fo,t.nx,t.bg⟩:sF) [_] results126 ⟨rfl,trivial⟩ rfl (aP (.inl ⟨rfl,eU (h13.1 (by simpa using h20)) (.inl ⟨h25,om⟩),rfl,rfl,rfl,rfl⟩) SB)|exact zX (⟨false,at_,oa,oc,out,fo,t.nx,t.bg⟩:sF) [_] results126 ⟨rfl,trivial⟩ rfl (aP (.inl ⟨rfl,eU (h13.1 (by simpa using h20)) (.inr (.inl om)),rfl,rfl,rfl,rfl⟩) SB)|exact zX (⟨false,at_,oa,oc,out,fo,t.nx,t.bg⟩:sF) [_] results126 ⟨rfl,trivial⟩ rfl (aP (.inl ⟨rfl,eU (h13.1 (by simpa using h20)) (.inr (.inr om)),rfl,rfl,rfl,rfl⟩) SB)):p:=h
theorem aao(h:p:=by exact zX () [_] results263 ⟨rfl,trivial⟩ (congrArg Value.bool (by first|(unfold aK;simp_all;done)|(unfold aK;simp_all;omega)|(unfold aK;rw[if_pos om];simp_all)|(unfold aK;rw[if_neg om];simp_all<;>omega))) SB):p:=h
theorem aap(h:p:=by exact xl (by first|exact⟨k+1,a122,c122,_,rfl,rfl,om,by rw[hrun,hst],so⟩|exact⟨k+1,a7,c7,s,rfl,rfl,om,by rw[hrun,hst],om⟩) (hH:=(by first|exact SB|exact(fun w hw=>(SB w hw:St w0 (aF b5 (.cells (cn.mk (aj.mk (sl+1) f (aH.mk num (mk:Int)) (aH.mk num (mk:Int)) cs1 (s.last.set cl (ar.mk ls[k].aG ls[k].seq (sl+1) res) hc6)) ⟨a122,(s.out++[(ar.mk ls[k].aG ls[k].seq (sl+1) res)]).length,c122⟩).cells 167 (0,0))::aF b2 (.cells (aj.mk sl f (aH.mk num (mk:Int)) fM cs la).cells 44 (0,0))::aF b4 (.cells cn.zero.cells 167 (0,0))::aF b6 (.cells nx1.cells 33 (0,0))::row (.slice a122 (s.out++[(ar.mk ls[k].aG ls[k].seq (sl+1) res)]).length c122) 41 5 ((s.out++[(ar.mk ls[k].aG ls[k].seq (sl+1) res)]).flatMap ar.list)::H) w))))):p:=h
theorem aar(h:p:=by first|exact⟨dsb,x23.fu,x23.t,x23.s,dy,x23.z,x30.x,x23.e,x30.f,x23.o.a,x30.o.a,x23.o.c,x30.o.c,x23.out.length,x30.out.length,(x23.out.flatMap ar.list),(x30.out.flatMap ar.list),x23.out,x30.out,rfl,rfl,rfl,rfl,rfl,rfl,⟨hl24,hf4,hfact⟩⟩|exact⟨dsb,x39.fu,x39.t,x39.s,x39.y,dz,x44.1,x39.e,x44.2,none,none,0,0,0,0,[],[],[],[],rfl,rfl,rfl,rfl,rfl,rfl,⟨dc,hf4,hfact.imp_right fun h=>⟨h.1,rfl,h.2⟩⟩⟩|exact⟨x50.sb,x50.fu,x50.t,x50.s,dy,x50.z,x52,x50.e,0,none,none,0,0,0,0,[],[],[],[],rfl,rfl,rfl,rfl,rfl,rfl,⟨dc,hf4,hfact.imp_right fun h=>⟨h.1,rfl,h.2,fun hn=>absurd h.1 hn⟩⟩⟩|exact⟨x60.sb,x60.fu,x60.t,x60.s,dy,x60.z,x67.1,x60.e,x67.2,none,none,0,0,0,0,[],[],[],[],rfl,rfl,rfl,rfl,rfl,rfl,⟨dc,hf4,hfact.imp_right fun h=>⟨h.1,rfl,h.2⟩⟩⟩):p:=h
theorem aas(h:p:=by first|exact zX (⟨(⟨sb2,fu2,t2,s2,y2,z2,xx2⟩:oD),e,(decide (L1=L2))⟩:IS) [_,_,_] results11 ⟨rfl,⟨_,rfl,ak rfl⟩,rfl,trivial⟩ rfl (fun w hw=>((SC) w hw:St w0 (bE q sb2 p (some ⟨lp,0,none⟩) bp fu2::bm lp p eA t2::bP t2::cb.H y2 bp (DS.H p s2 (du.H z2 sb2 (XS.H xx2 H)))) w).aC (by rcases hfact with h4|⟨h5,h6,h7,h8⟩;exact .inl h4;exact .inr ⟨decide_eq_true h6,h7,h8⟩))|exact zX (⟨(⟨sb2,fu2,t2,s2,y2,z2,xx2⟩:oD),e,false⟩:IS) [_,_,_] results11 ⟨rfl,⟨_,rfl,ak rfl⟩,rfl,trivial⟩ rfl (fun w hw=>((SC) w hw:St w0 (bE q sb2 p (some ⟨lp,0,none⟩) bp fu2::bm lp p eA t2::bP t2::cb.H y2 bp (DS.H p s2 (du.H z2 sb2 (XS.H xx2 H)))) w).aC (by rcases hfact with h4|⟨h5,h6,h7,h8⟩;exact .inl h4;exact absurd h5 (by simpa using h90)))):p:=h
theorem aau(h:p:=by first|exact⟨_,_,rfl,rfl,uK hk16 p50 hm⟩|exact⟨_,_,rfl,rfl,wa hk16 p54 hm⟩|exact⟨_,_,rfl,rfl,wI hk16 p62 hm⟩|exact⟨_,_,rfl,rfl,qE hk16 p77 hm h80 p88⟩|exact⟨_,_,rfl,rfl,qP hk16 p77 hm (by rintro⟨h,h2⟩;first|exact p88 h2|(rw[h]at h80;cases h80))⟩|exact⟨_,_,rfl,rfl,vr hk16 om hm⟩):p:=h
theorem aav(h:p:=by exact zX () [_] results262 ⟨rfl,trivial⟩ (congrArg Value.bool (by first|(unfold bh;simp only[aJ.abs];simp_all;done)|(unfold bh;simp only[aJ.abs];simp_all;omega)|(symm;unfold bh;exact decide_eq_false (by simp only[aJ.abs];rintro⟨⟨h1,h2⟩,-⟩;omega))|(symm;unfold bh;exact decide_eq_false (by simp only[aJ.abs];rintro⟨-,⟨h1,h2⟩,-⟩;omega)))) SB):p:=h
theorem aaw(h:p:=by first|exact zX (⟨b29,some ⟨b29,0,none⟩,aa,ac,all,fa,s,(oz ga gc m (eF cf m jV)),0⟩:Mk) [_,_,_] results26 ⟨rfl,rfl,rfl,trivial⟩ rfl (fun w hw=>(cJ.st inferInstance w (vN (m:=m) (ga:=ga) (gc:=gc) (H:=bm b29 p pre (oz ga gc m (eF cf m jV))::row (.slice aa (all).length ac) 47 1 ((all).map BS.val)::dX fa ⟨all,[],[]⟩::DS.H p s H) (SB w hw)):St w0 (bm b29 p pre (oz ga gc m (eF cf m jV))::bP (oz ga gc m (eF cf m jV))::row (.slice aa (all).length ac) 47 1 ((all).map BS.val)::dX fa ⟨all,[],[]⟩::DS.H p s H) w).aC ⟨hok.mono om (W8 _),.inr ⟨rfl,rfl,.inl ⟨hwh,rfl,⟨ga,gc,rfl⟩,hall.symm⟩⟩⟩)|exact zX (⟨b29,some ⟨b29,0,none⟩,a84,c84,all++x79.out,fa++x79.fo,x98.1,x98.2.1,0⟩:Mk) [_,_,_] results26 ⟨rfl,rfl,rfl,trivial⟩ rfl (fun w hw=>(cJ.st inferInstance w (wh (all:=all) (o:=x79.out) (fa:=fa) (fo:=x79.fo) (x:=row (.slice a84 (all++x79.out).length c84) 47 1 ((all++x79.out).map BS.val)) (H:=bm b29 p pre x98.2.1::bP x98.2.1::DS.H p x98.1 H) (SB w hw)):St w0 (bm b29 p pre x98.2.1::bP x98.2.1::row (.slice a84 (all++x79.out).length c84) 47 1 ((all++x79.out).map BS.val)::dX (fa++x79.fo) ⟨all++x79.out,[],[]⟩::DS.H p x98.1 H) w).aC ⟨hok98.mono (by show M+2+m.length<=M+1100;have:=hp.length_eq;have:=l7 nf (bS s.e2);omega) (W8 _),.inr ⟨rfl,rfl,.inr ⟨k,hk,hwh,by rw[h79];show x79.at_<_;omega,hlv98,hr98,hp98,hq98,by rw[h79];exact hc98,⟨ga,gc,by rw[hstep];exact ht98⟩,hrec.symm⟩⟩⟩)):p:=h
theorem aax(h:B)(k:Y9 B->A:=by intro hh;refine zN (az (.int .i64 _) rfl rfl ((gG hh.x)))):A:=k ⟨h⟩
theorem aaz(h:B)(k:Y9 B->A:=by intro hh;refine congrArg Value.bool hh.x):A:=k ⟨h⟩
theorem aaA(h:p:=by show vs.length-(i+1:Int).toNat<vs.length-(i:Int).toNat;omega):p:=h
theorem aaB(h:p:=by exact xl (by first|exact⟨k+1,a93,c93,_,rfl,rfl,om,by rw[hrun,hst],so⟩|exact⟨k+1,a7,c7,s,rfl,rfl,om,by rw[hrun,hst],om⟩) (hH:=(by first|exact SB|exact(fun w hw=>(SB w hw:St w0 (aF b2 (.cells (aj.mk (sl+1) f (aH.mk num (mk:Int)) (aH.mk num (mk:Int)) cs1 (s.last.set cl (ar.mk ls[k].aG ls[k].seq (sl+1) res) hc6)).cells 44 (0,0))::aF b4 (.cells aj.zero.cells 44 (0,0))::aF b6 (.cells nx1.cells 33 (0,0))::row (.slice a93 (s.out++[(ar.mk ls[k].aG ls[k].seq (sl+1) res)]).length c93) 41 5 ((s.out++[(ar.mk ls[k].aG ls[k].seq (sl+1) res)]).flatMap ar.list)::H) w))))):p:=h
theorem aaC(h:B)(k:Y9 B->A:=by intro hh;refine zq (aA [] rfl kr) rfl hh.x):A:=k ⟨h⟩
theorem aaD(h:B)(k:Y9 B->A:=by intro hh;refine zq (aA [(1,(.int .i64 _))] rfl kr) rfl hh.x):A:=k ⟨h⟩
theorem aaE(h:B)(k:Y9 B->A:=by intro hh;refine gS rfl (zs rfl rfl (⟨SB,(gA hh.x)⟩))):A:=k ⟨h⟩
theorem aaF(h:B)(k:Y9 B->A:=by intro hh;refine zX () [.bool (df v.abs)] results156 ⟨hh.x,trivial⟩ rfl SB):A:=k ⟨h⟩
theorem aaG(h:B)(k:Y9 B->A:=by intro hh;refine cq rfl rfl (dW (zl rfl) ⟨SB,hh.x⟩)):A:=k ⟨h⟩
theorem aaH(h:B)(k:Y9 B->A:=by intro hh;refine zq (bn rfl rfl om om) rfl (zq (bI (ek 35 ls[k].list rfl (de _ 35 ah.ae ls k hk) (ah.ae _) dc) (show Value.agg ls[k].list.toArray=Value.agg ls[k].cells from rfl)) rfl hh.x)):A:=k ⟨h⟩
theorem aaI(h:B)(k:Y9 B->A:=by intro hh;refine zN (az (.int .i64 _) rfl rfl ((gA hh.x)))):A:=k ⟨h⟩
theorem aaJ(h:p:=by show ¬(IntKind.i64.wrap (n-1)=behind/\n<=60/\(p.ls.map BS.l).length<=16/\nq (p.ls.map BS.l)+b.l.length<=30000);rw[WZ];omega):p:=h
theorem aaL(h:p:=by first|omega|(simp_all;done)|(simp_all;omega)):p:=h
theorem aaM(h:B)(k:Y9 B->A:=by intro hh;refine zN (az (.slice _ _ _) rfl rfl ((gG hh.x)))):A:=k ⟨h⟩
theorem aaN(h:B)(k:Y9 B->A:=by intro hh;refine gg rfl (az (.slice _ _ _) rfl rfl (⟨SB,hh.x⟩))):A:=k ⟨h⟩
theorem aaO(h:B)(k:Y9 B->A:=by intro hh;refine ez (fun w hw=>((SC) w hw:St w0 (bE q dsb p (some ⟨lp,0,none⟩) bp false::bm lp p eA dt::bP dt::cb.H dy bp (DS.H p ds (du.H dz dsb (row (.slice none 0 0) 41 5 []::row (.slice none 0 0) 41 5 []::aF b9 (.cells dx.v.cells 54 (0,0))::aF b7 (.cells aR.zero.cells 54 (0,0))::aF b5 (.cells ac.cells 62 (0,0))::aF b4 (.cells dx.v.cells 54 (0,0))::XS.H dx H)))) w)) hh.x):A:=k ⟨h⟩
theorem aaP(h:B)(k:Y9 B->A:=by intro hh;refine zX () [.bool (df v.abs)] results132 ⟨hh.x,trivial⟩ rfl SB):A:=k ⟨h⟩
theorem aaQ(h:B)(k:Y9 B->A:=by intro hh;refine br hns0 rfl rfl rfl h32 rfl hh.x):A:=k ⟨h⟩
theorem aaR(h:B)(k:Y9 B->A:=by intro hh;refine eI hns0 rfl rfl rfl rfl hh.x):A:=k ⟨h⟩
theorem aaS(h:p:=by first|exact⟨_,rfl,rfl,Dj hk16 h1 h5 hy ⟨p40,by first|exact .inl p44|exact .inr h48⟩⟩|exact⟨_,rfl,rfl,De hk16 h1 h5 hy (fun h=>by first|exact h.1 p40|exact h.2.elim (fun h=>h p44) (fun h=>by rw[h]at h48;cases h48))⟩):p:=h
theorem aaT(h:p:=by first|exact zX (⟨dY x.W (x.us.map ah.abs),x.us[x.us.length-1],none,0,[],x.va,x.vc,x.vs⟩:XS) [_] results34 ⟨⟨_,rfl,ak rfl⟩,trivial⟩ rfl (fun w hw=>((SB w hw:St w0 (C7 x.va x.vc x.vs::H) w).cT 50 35:St w0 (XS.H (⟨dY x.W (x.us.map ah.abs),x.us[x.us.length-1],none,0,[],x.va,x.vc,x.vs⟩:XS) H) w).aC ⟨rfl,(nz hpos).symm,rfl,rfl⟩)|exact zX (⟨dY x.W (x.us.map ah.abs),x.u,none,0,[],x.va,x.vc,x.vs⟩:XS) [_] results34 ⟨⟨_,rfl,ak rfl⟩,trivial⟩ rfl (fun w hw=>((SB w hw:St w0 (C7 x.va x.vc x.vs::H) w).cT 50 35:St w0 (XS.H (⟨dY x.W (x.us.map ah.abs),x.u,none,0,[],x.va,x.vc,x.vs⟩:XS) H) w).aC ⟨rfl,(ny hnil).symm,rfl,rfl⟩)):p:=h
theorem aaU(h:p:=by exact zX () [_,_] results63 ⟨⟨_,rfl,ak rfl⟩,rfl,trivial⟩ rfl SB):p:=h
theorem aaW(h:B)(k:Y9 B->A:=by intro hh;refine cD (cg (.int .i64 _) rfl) rfl hh.x):A:=k ⟨h⟩
theorem aaX(h:p:=by exact zX true [_] results6 ⟨rfl,trivial⟩ rfl (fun w hw=>(SB w hw:St w0 H w).aC (fun h=>by cases h))):p:=h
theorem aaY(h:p:=by exact zX () [_] results226 ⟨⟨_,rfl,ak rfl⟩,trivial⟩ (by rw[e];rfl) SB):p:=h
theorem aaZ(h:p:=by exact zX aJ.zero [_,_] results261 ⟨⟨_,rfl,ak rfl⟩,rfl,trivial⟩ rfl (fun w hw=>(SB w hw:St w0 H w).aC ⟨rfl,rfl⟩)):p:=h
theorem aa0(h:p:=by exact zX () [_,_] results264 ⟨⟨_,rfl,ak rfl⟩,⟨_,rfl,ak rfl⟩,trivial⟩ rfl SB):p:=h
theorem aa1(h:B)(k:Y9 B->A:=by intro hh;refine zN (zs rfl rfl (hh.x))):A:=k ⟨h⟩
theorem aa2(h:B)(k:Y9 B->A:=by intro hh;refine ez (fun w hw=>(cJ.st inferInstance w (du.intro (SB w hw:St w0 (aF b7 (.cells (aM.mk W u ⟨none,0,0⟩ ⟨da,1,dc⟩ (W).slot).cells 87 (0,0))::row (.slice da 1 dc) 46 32 (aX (fH (wB W)))::dX fp (Deep.leads u)::aF b23 (.cells (bq.mk (some ⟨b7,0,none⟩) (some ⟨p,0,none⟩) none (some ⟨x21.1,0,none⟩) false).cells 84 (0,0))::cb.H (cb.made x21.2) x21.1 (DS.H p s H)) w)):St w0 (DS.H p s (du.H (du.new W u da dc fp) b7 (aF b23 (.cells (bq.mk (some ⟨b7,0,none⟩) (some ⟨p,0,none⟩) none (some ⟨x21.1,0,none⟩) false).cells 84 (0,0))::cb.H (cb.made x21.2) x21.1 H))) w)) hh.x):A:=k ⟨h⟩
theorem aa3(h:p:=by exact zX (x,15) [_,_] results36 ⟨⟨_,rfl,ak rfl⟩,rfl,trivial⟩ rfl (aP (.inl ⟨(show Dc (dY x.W (x.us.map ah.abs)).slot W (ah.abs (ah.mk n h b pp)) 15 from .inr ⟨om,hno,rfl⟩),rfl⟩) SB)):p:=h
theorem aa4(h:B)(k:Y9 B->A:=by intro hh;refine zq (bV rfl rfl underlying58) rfl hh.x):A:=k ⟨h⟩
theorem aa5(h:p:=by have hv1:=cM n1 m1;have hv2:=cM n2 m2;have hv3:=iH hcs;have hv4:=bA (bO n1 m1) om;have hv5:=bA (bO n2 m2) om;omega):p:=h
theorem aa7(h:B)(k:Y9 B->A:=by intro hh;refine gg rfl (zs rfl rfl (⟨SB,hh.x⟩))):A:=k ⟨h⟩
theorem aa9(h:p:=by repeat (first|with_reducible exact gI|refine iQ rfl ?_|refine jD rfl ?_|refine fO rfl ?_)):p:=h
theorem aba(h:B)(k:Y9 B->A:=by intro hh;refine bz (i:=6) kr rfl kr kr (zm (.tuple _) rfl) rfl (bz (i:=7) kr rfl kr kr (eo rfl) rfl (bz (i:=8) kr rfl kr kr (eo rfl) rfl hh.x))):A:=k ⟨h⟩
theorem abb(h:p:=by clear h;assumption):p:=h
theorem abc(h:p:=by simpa using h20):p:=h
theorem abd(h:B)(k:Y9 B->A:=by intro hh;refine gS rfl (zs rfl rfl (⟨SB,hh.x⟩))):A:=k ⟨h⟩
theorem abe(h:p:=by exact zX aJ.zero [_,_] results221 ⟨⟨_,rfl,ak rfl⟩,rfl,trivial⟩ rfl (fun w hw=>((SB w hw:St w0 H w).cP 5).aC rfl)):p:=h
theorem abf(h:p:=by simpa using hk):p:=h
theorem abg(h:B)(k:Y9 B->A:=by intro hh;refine zk (zx (zS (zR (zq (zm (.pointer _) rfl) rfl (zq (aN rfl) rfl (zq (zf 1 rfl rfl) rfl (zq (zl rfl) rfl hh.x)))))))):A:=k ⟨h⟩
theorem abh(h:B)(k:Y9 B->A:=by intro hh;refine cD (dQ (.int .i64 _) rfl) rfl hh.x):A:=k ⟨h⟩
theorem abi(h:p:=by first|exact⟨_,_,_,rfl,rfl,tN p46⟩|exact⟨_,_,_,rfl,rfl,tI p46 p58 p63⟩|exact⟨_,_,_,rfl,rfl,tJ p46 (fun h=>by first|exact absurd h p58|exact p63)⟩):p:=h
theorem abj(h:p:=by first|exact⟨_,_,_,rfl,rfl,tN p68⟩|exact⟨_,_,_,rfl,rfl,tI p68 p80 p85⟩|exact⟨_,_,_,rfl,rfl,tJ p68 (fun h=>by first|exact absurd h p80|exact p85)⟩):p:=h
theorem abk(h:B)(k:Y9 B->A:=by intro hh;refine zX () [.bool (decide (v.abs=u.abs))] results47 ⟨hh.x,trivial⟩ rfl SB):A:=k ⟨h⟩
theorem abm(h:p:=by exact zX () [_,_] results189 ⟨rfl,rfl,trivial⟩ rfl SB):p:=h
theorem abn(h:p:=by exact zX aJ.zero [_] results149 ⟨⟨_,rfl,ak rfl⟩,trivial⟩ rfl (fun w hw=>((SB w hw:St w0 H w).cP 5).aC rfl)):p:=h
theorem abo(h:p:=by exact zX () [_] results91 ⟨⟨_,rfl,ak rfl⟩,trivial⟩ rfl SB):p:=h
theorem abp(h:B)(k:Y9 B->A:=by intro hh;refine br hns0 rfl rfl rfl rfl rfl hh.x):A:=k ⟨h⟩
theorem abq(h:B)(k:Y9 B->A:=by intro hh;refine br hns0 rfl rfl rfl h45 rfl hh.x):A:=k ⟨h⟩
theorem abr(h:B)(k:Y9 B->A:=by intro hh;refine zq (aA [(3,(.int .i64 _))] rfl kr) rfl hh.x):A:=k ⟨h⟩
theorem abt(h:p:=by first|exact(fun w hw=>(SB w hw:St w0 (aF b2 (.cells (ax.mk false 0).cells 36 (0,0))::aF b3 (.cells (gn.mk kd ky a b).cells 248 (0,0))::aF b4 (.cells ax.zero.cells 36 (0,0))::aF b5 (.cells cI.zero.cells 39 (0,0))::H) w))|exact(fun w hw=>(SB w hw:St w0 (aF b2 (.cells (ax.mk true n).cells 36 (0,0))::aF b3 (.cells (gn.mk kd ky a b).cells 248 (0,0))::aF b4 (.cells ax.zero.cells 36 (0,0))::aF b5 (.cells cI.zero.cells 39 (0,0))::H) w))):p:=h
theorem abu(h:p:=by exact zX () [_,_] results114 ⟨⟨_,rfl,ak rfl⟩,rfl,trivial⟩ rfl SB):p:=h
theorem abv(h:p:=by first|rfl|(clear h;assumption)):p:=h
theorem abw(h:B)(k:Y9 B->A:=by intro hh;refine cu (bE q sb p lo bp fu::du.H z sb (aF b5 (.cells (gY x).cells 50 (0,0))::aF b3 (.cells x.v.cells 54 (0,0))::cb.H y bp (XS.H x H))) hh.x):A:=k ⟨h⟩
theorem abx(h:p:=by first|(simp_all;done)|(simp_all;omega)):p:=h
theorem aby(h:B)(k:Y9 B->A:=by intro hh;refine zq (bV rfl rfl underlying5) rfl hh.x):A:=k ⟨h⟩
theorem abz(h:B)(k:Y9 B->A:=by intro hh;refine zN (az (.pointer _) rfl rfl ((gG hh.x)))):A:=k ⟨h⟩
theorem abA(h:p:=by exact zX () [_] results165 ⟨⟨_,rfl,ak rfl⟩,trivial⟩ rfl SB):p:=h
theorem abB(h:p:=by exact xl (by first|exact⟨k+1,x45.d,rfl,rfl,om,hI2⟩|exact⟨k+1,d,rfl,rfl,om,hI.mono⟩) (hH:=fun w hw=>((SC) w hw:St w0 _ w))):p:=h
theorem abC(h:p:=by exact zX (⟨(⟨sb2,fu2,t2,s2,y2,z2,xx2⟩:oD),e,(decide ((L1.length:Int)=0))⟩:IS) [_,_,_] results11 ⟨rfl,⟨_,rfl,ak rfl⟩,rfl,trivial⟩ rfl (fun w hw=>((SC) w hw:St w0 (bE q sb2 p (some ⟨lp,0,none⟩) bp fu2::bm lp p eA t2::bP t2::cb.H y2 bp (DS.H p s2 (du.H z2 sb2 (XS.H xx2 H)))) w).aC (by rcases hfact with h4|⟨h5,h6,h7,h8⟩;exact .inl h4;exact .inl om))):p:=h
theorem abD(h:B)(k:Y9 B->A:=by intro hh;refine br hns0 rfl rfl rfl h57 rfl hh.x):A:=k ⟨h⟩
theorem abE(h:B)(k:Y9 B->A:=by intro hh;refine br hns0 rfl rfl rfl h41 rfl hh.x):A:=k ⟨h⟩
theorem abF(h:p:=by exact xl (by first|exact⟨k+1,oA e1 (fi s.cw[k] x24.1) x33 c1,sE e1 (fi s.cw[k] x24.1) c1,bQ (.slice x33.a x33.l.length x33.c)++fp,x33::bs,rfl,rfl,om,hc.step hok hk hx33 (by rw[hx24,h27];rfl)⟩|exact⟨k+1,e1,c1,fp,bs,rfl,rfl,om,hc.none hk (by rw[hx24,h27];rfl)⟩) (hH:=by first|exact(fun w hw=>xE (b6:=b6) (a:=(fi s.cw[k] x24.1)) (x:=x33) (SB w hw))|exact SB)):p:=h
theorem abG(h:p:=by show IntKind.i64.wrap (n-1)=behind/\n<=60/\(p.ls.map BS.l).length<=16/\nq (p.ls.map BS.l)+b.l.length<=30000;rw[WZ];omega):p:=h
theorem abH(h:p:=by exact zX (⟨sb,false,t,s,15,z⟩:Gv) [_] results35 ⟨rfl,trivial⟩ rfl (aP (.inl ⟨.inr ⟨om,hno,rfl⟩,rfl⟩) SB)):p:=h
theorem abI(h:B)(k:Y9 B->A:=by intro hh;refine ez (fun w hw=>((SC) w hw:St w0 (bE x20.q x45.d.sb x16.1 (some ⟨x20.lp,0,none⟩) x20.bp x45.d.fu::cb.H x45.d.y x20.bp (du.H x45.d.z x45.d.sb (XS.H x45.d.x (bm x20.lp x16.1 eA x45.d.t::bP x45.d.t::DS.H x16.1 x45.d.s (aF b6 (.cells x45.d.x.v.cells 54 (0,0))::aF b8 (.cells l[k].cells 62 (0,0))::aF b10 (.cells x45.d.x.v.cells 54 (0,0))::H))))) w)) hh.x):A:=k ⟨h⟩
theorem abK(h:p:=by exact zX () [_,_] results225 ⟨⟨_,rfl,ak rfl⟩,⟨_,rfl,ak rfl⟩,trivial⟩ rfl SB):p:=h
theorem abL(h:p:=by exact zX () [_,_] results153 ⟨⟨_,rfl,ak rfl⟩,⟨_,rfl,ak rfl⟩,trivial⟩ rfl SB):p:=h
theorem abM(h:p:=by simp[aj.ae,ah.ae]):p:=h
theorem abN(h:B)(k:Y9 B->A:=by intro hh;refine zN (az (.bool _) rfl rfl ((gG hh.x)))):A:=k ⟨h⟩
theorem abO(h:B)(k:Y9 B->A:=by intro hh;refine br hns3 rfl rfl rfl h70 rfl hh.x):A:=k ⟨h⟩
theorem abP(h:p:=by unfold jo aJ.abs;first|(simp_all;done)|(simp_all;omega)):p:=h
theorem abQ(h:p:=by simp at hv;exact⟨hv.1.symm,hv.2.1.symm,hv.2.2.symm⟩):p:=h
theorem abR(h:p:=by exact zX (⟨none,0,[]⟩:BS) [] results49 trivial rfl (fun w hw=>by rw[e1,e2];exact St.aC (St.py 5 (SB w hw:St w0 (aF r (cF encS BS.val es c)::H) w)) e3.symm)):p:=h
theorem abS(h:p:=by simp[IntKind.wrap,IntKind.bits,IntKind.signed];omega):p:=h
theorem abT(h:p:=by have hv1:=cM n1 m1;have hv2:=cM n2 m2;have hv3:=iH hcs;have hv4:=bA (bO n1 m1) om;have hv5:=bA (bO n2 m2) om;have hv6:=bA (lu cs) om;simp only[WX,aO];omega):p:=h
theorem abU(h:B)(k:Y9 B->A:=by intro hh;refine gX (fun w hw=>(SB w hw:St w0 (bE q sb p lo bp fu::aF sb (.cells z.v.cells 87 (0,0))::oG z.sa z.sc z.aT::Ky z.da z.dc z.ds::dX z.fp (dD z.all)::oG x33.1.1.a x33.1.1.c x33.1.2::dX x33.2 (dD x33.1.2)::aF b5 (.cells (gY x).cells 50 (0,0))::aF b3 (.cells x.v.cells 54 (0,0))::cb.H y bp (XS.H x H)) w)) hh.x):A:=k ⟨h⟩
theorem abV(h:p:=by exact zX (⟨b23,b7,x21.1,x53.lp,x53.t,x53.s,yk,zk⟩:N3) [_,_] results8 ⟨rfl,rfl,trivial⟩ rfl (fun w hw=>(SB w hw:St w0 (bE b23 b7 p (some ⟨x53.lp,0,none⟩) x21.1 false::bm x53.lp p eA x53.t::bP x53.t::cb.H yk x21.1 (DS.H p x53.s (du.H zk b7 H))) w).aC ⟨o1,o4,hyk,hya,hzk,x53,h53,rfl,rfl⟩)):p:=h
theorem abW(h:p:=by exact zX ⟨none,0⟩ [_,_] results84 ⟨rfl,rfl,trivial⟩ rfl (fun w hw=>(SB w hw:St w0 H w).cP 5)):p:=h
theorem abX(h:p:=by exact zX () [_] results40 ⟨rfl,trivial⟩ (congrArg Value.bool (by unfold vm ah.abs;simp_all)) SB):p:=h
theorem abY(h:p:=by simp[Value.cells]):p:=h
theorem abZ(h:p:=by exact zX () [_,_] results224 ⟨⟨_,rfl,ak rfl⟩,rfl,trivial⟩ rfl SB):p:=h
theorem ab0(h:p:=by exact zX () [_,_] results152 ⟨⟨_,rfl,ak rfl⟩,rfl,trivial⟩ rfl SB):p:=h
theorem ab1(h:p:=by exact zX () [_,_] results166 ⟨⟨_,rfl,ak rfl⟩,rfl,trivial⟩ rfl SB):p:=h
theorem ab2(h:B)(k:Y9 B->A:=by intro hh;refine cd (i:=7) kr hh.x):A:=k ⟨h⟩
theorem ab4(h:B)(k:Y9 B->A:=by intro hh;refine cd (i:=11) kr hh.x):A:=k ⟨h⟩
theorem ab5(h:p:=by simp[Value.cells,af.size]):p:=h
theorem ab7(h:B)(k:Y9 B->A:=by intro hh;refine zq (aA [(0,(.int .u64 _)),(2,(.int .i64 _))] rfl kr) rfl hh.x):A:=k ⟨h⟩
theorem ab8(h:p:=by have hv1:=cM n1 m1;have hv2:=cM n2 m2;have hv3:=iH hcs;have hv4:=bA (bO n1 m1) om;have hv5:=bA (bO n2 m2) om;simp only[WX,aO];omega):p:=h
theorem ab9(h:p:=by first|omega|simp_all):p:=h
theorem aca(h:p:=by exact zX () [_] results223 ⟨rfl,trivial⟩ (congrArg Value.bool (by unfold jo aJ.abs;first|(simp_all;done)|(simp_all;omega))) SB):p:=h
theorem acb(h:B)(k:Y9 B->A:=by intro hh;refine zN (gV rfl rfl ((gG hh.x)))):A:=k ⟨h⟩
theorem acd(h:B)(k:Y9 B->A:=by intro hh;refine jN (fun w hw=>(SB w hw:St w0 (bm lp p eA tk::bP tk::DS.H p sk (row (.slice x56.a (gZ ls[k].abs).length x56.c) 5 1 (aE (gZ ls[k].abs))::aF b9 (.cells ls[k].cells 50 (0,0))::bE q sb p (some ⟨lp,0,none⟩) bp false::cb.H y bp (du.H z sb H))) w)) hh.x):A:=k ⟨h⟩
theorem acg(h:B)(k:Y9 B->A:=by intro hh;refine zq (aA [(0,(.bool _)),(1,(.int .i64 _))] rfl kr) rfl hh.x):A:=k ⟨h⟩
theorem ach(h:p:=by exact zX () [_] results19 ⟨rfl,trivial⟩ (by rw[e];rfl) SB):p:=h
theorem aci(h:p:=by dsimp only;omega):p:=h
theorem acj(h:p:=by exact zX () [_] results66 ⟨rfl,trivial⟩ (congrArg Value.bool (by first|exact(AI om om).symm|exact(AT om).symm)) SB):p:=h
theorem ack(h:B)(k:Y9 B->A:=by intro hh;refine aI rfl rfl (zS (zR (zq (za (.bool _) rfl) rfl (zz (zx (zQ (zr hh.x)))))))):A:=k ⟨h⟩
theorem acm(h:B)(k:Y9 B->A:=by intro hh;refine jN (fun w hw=>(SB w hw:St w0 (bE q sb p (some ⟨lp,0,none⟩) bp false::bm lp p eA t::bP t::cb.H y bp (DS.H p s (row (.slice x26.2.a 1 x26.2.c) 46 32 (aX (fH (wB z.w)))::dX x26.1.2 (Deep.leads x26.1.1)::du.H z sb H))) w)) hh.x):A:=k ⟨h⟩
theorem acn(h:p:=by exact zX () [_] results147 ⟨⟨_,rfl,ak rfl⟩,trivial⟩ (by rw[e];rfl) SB):p:=h
theorem acq(h:p:=by simpa using hi):p:=h
theorem acr(h:p:=by show v.cert.ls.length-(k+1:Int).toNat<v.cert.ls.length-(k:Int).toNat;omega):p:=h
theorem acs(h:p:=by exact zX () [_] results75 ⟨rfl,trivial⟩ (congrArg Value.bool (rfl)) SB):p:=h
theorem acu(h:p:=by exact zX () [_] results81 ⟨rfl,trivial⟩ (congrArg Value.bool (rfl)) SB):p:=h
theorem acv(h:p:=by exact cJ.st (H':=aF p (.cells (bl.mk now en v.slot (some r) (some ⟨b3,0,none⟩)).cells 131 (0,0))::aF r (cF je lx es1 c)::aF b3 (.cells x43.1.cells 57 (0,0))::eG (x43.2++fp) ([x43.1]++vs)::H) inferInstance w (St.j3 h1)):p:=h
theorem acw(h:B)(k:Y9 B->A:=by intro hh;refine zd hns0 rfl (zf 0 rfl rfl) rfl (zd hns0 rfl (zl rfl) rfl (zd hns0 rfl (bV rfl rfl underlying58) rfl (zd hns0 rfl (zf 1 rfl rfl) rfl (zd hns0 rfl (zl rfl) rfl (zd hns0 rfl (cV rfl rfl underlying58 om om) rfl hh.x)))))):A:=k ⟨h⟩
theorem acx(h:B)(k:Y9 B->A:=by intro hh;refine cd (i:=8) kr hh.x):A:=k ⟨h⟩
theorem acy(h:p:=by exact zX (x,15) [_,_] results32 ⟨⟨_,rfl,ak rfl⟩,rfl,trivial⟩ rfl (aP (⟨(by show(15:Int)=nt x.vs v;unfold nt;rw[if_pos (by first|exact .inl om|exact .inr om)]),.inl ⟨by show(15:Int)≠0;decide,rfl⟩⟩) SB)):p:=h
theorem acz(h:p:=by exact zX () [_,_] results115 ⟨⟨_,rfl,ak rfl⟩,rfl,trivial⟩ rfl SB):p:=h
theorem acA(h:p:=by exact zX () [_,_] results192 ⟨⟨_,rfl,ak rfl⟩,rfl,trivial⟩ rfl SB):p:=h
theorem acB(h:p:=by exact zX () [_,_] results164 ⟨⟨_,rfl,ak rfl⟩,rfl,trivial⟩ rfl SB):p:=h
theorem acC(h:B)(k:Y9 B->A:=by intro hh;refine zd hns0 rfl (zf 0 rfl rfl) rfl (zd hns0 rfl (zl rfl) rfl (zd hns0 rfl (bV rfl rfl underlying58) rfl (zd hns0 rfl (zf 1 rfl rfl) rfl (zd hns0 rfl (zl rfl) rfl (zd hns0 rfl (bV rfl rfl underlying58) rfl hh.x)))))):A:=k ⟨h⟩
theorem acD(h:B)(k:Y9 B->A:=by intro hh;refine zq (ck (aX (zeroV 32)).toArray underlying46 rfl rfl rfl) rfl hh.x):A:=k ⟨h⟩
theorem acE(h:p:=by first|(left;simpa using h10)|(right;omega)):p:=h
theorem acF(h:B)(k:Y9 B->A:=by intro hh;refine jN (fun w hw=>(SB w hw:St w0 (bm lp p eA t::bP t::DS.H p s (row (.slice x48.a (fY v.abs).length x48.c) 5 1 (aE (fY v.abs))::aF b3 (.cells v.cells 57 (0,0))::qi q sb p lp bp false::cb.H y bp H)) w)) hh.x):A:=k ⟨h⟩
theorem acG(h:p:=by rw[WZ];omega):p:=h
theorem acH(h:p:=by exact zX () [_] results150 ⟨rfl,trivial⟩ rfl SB):p:=h
theorem acI(h:p:=by exact xl ⟨k+1,rfl,rfl,om⟩):p:=h
theorem acJ(h:B)(k:Y9 B->A:=by intro hh;refine zX () [.bool (dC num mk)] results229 ⟨hh.x,trivial⟩ rfl SB):A:=k ⟨h⟩
theorem acK(h:p:=by exact zX ⟨none,0⟩ [_,_] results87 ⟨rfl,rfl,trivial⟩ rfl (fun w hw=>(SB w hw:St w0 H w).cP 5)):p:=h
theorem acL(h:p:=by exact zX () [_] results218 ⟨rfl,trivial⟩ (by rw[e2];rfl) (fun w hw=>by rw[e1,e2];exact SB w hw)):p:=h
theorem acM(h:B)(k:Y9 B->A:=by intro hh;refine zq (aA [(0,(.int .i64 _)),(1,(.int .u16 _))] rfl kr) rfl hh.x):A:=k ⟨h⟩
theorem acN(h:B)(k:Y9 B->A:=by intro hh;refine zX () [.bool (dC num mk)] results20 ⟨hh.x,trivial⟩ rfl SB):A:=k ⟨h⟩
theorem acO(h:B)(k:Y9 B->A:=by intro hh;refine jN (fun w hw=>(SB w hw:St w0 (bE q sb p (some ⟨lp,0,none⟩) bp false::aF b9 (.cells ls[k].cells 50 (0,0))::bm lp p eA x57.2.1::bP x57.2.1::cb.H y bp (DS.H p x57.1 (du.H z sb H))) w)) hh.x):A:=k ⟨h⟩
theorem acP(h:p:=by exact zX (⟨false,t,s,y,15⟩:Jn) [_] results31 ⟨rfl,trivial⟩ rfl (aP (.inl ⟨by show(15:Int)≠0;decide,rfl,rfl,rfl,rfl,.inr (.inl ⟨by first|exact .inl om|exact .inr om,rfl⟩)⟩) SB)):p:=h
theorem acQ(h:B)(k:Y9 B->A:=by intro hh;refine zq (cV rfl rfl underlying58 om om) rfl hh.x):A:=k ⟨h⟩
theorem acR(h:B)(k:Y9 B->A:=by intro hh;refine zN (zs rfl rfl ((gA hh.x)))):A:=k ⟨h⟩
theorem acS(h:p:=by exact zX (m,true) [_,_] results48 ⟨⟨_,rfl,ak rfl⟩,rfl,trivial⟩ rfl (fun w hw=>(SB w hw:St w0 H w).aC (by rw[if_pos rfl,rN,if_pos (by first|(simp_all;done)|(simp_all;omega)),hm];rfl))):p:=h
theorem acT(h:p:=by exact zX (x54.1,t,x54.2) [_] results140 ⟨rfl,trivial⟩ rfl (fun w hw=>(SB w hw:St w0 (bm lp p pre t::bP t::DS.H p x54.1 H) w).aC ⟨by rw[e2];exact hw54,fun _=>rfl,fun h=>absurd h p56⟩)):p:=h
theorem acU(h:B)(k:Y9 B->A:=by intro hh;refine bz (i:=9) kr rfl kr kr (aN rfl) rfl (bz (i:=10) kr rfl kr kr (zf 103 rfl rfl) rfl hh.x)):A:=k ⟨h⟩
theorem acV(h:B)(k:Y9 B->A:=by intro hh;refine bz (i:=9) kr rfl kr kr (aN rfl) rfl (bz (i:=10) kr rfl kr kr (zf 104 rfl rfl) rfl hh.x)):A:=k ⟨h⟩
theorem acW(h:p:=by exact zX () [_] results88 ⟨rfl,trivial⟩ (by rw[e];rfl) SB):p:=h
theorem acX(h:p:=by cases h):p:=h
theorem acY(h:B)(k:Y9 B->A:=by intro hh;refine bz (i:=9) kr rfl kr kr (za (.int .i64 _) rfl) rfl hh.x):A:=k ⟨h⟩
theorem acZ(h:B)(k:Y9 B->A:=by intro hh;refine cd (i:=4) kr hh.x):A:=k ⟨h⟩
theorem ac0(h:B)(k:Y9 B->A:=by intro hh;refine zq (bn rfl rfl om om) rfl (zq (bI (ek 7 ls[k].list rfl (de _ 7 aJ.ae ls k hk) (aJ.ae _) dc) (show Value.agg ls[k].list.toArray=Value.agg ls[k].cells from rfl)) rfl hh.x)):A:=k ⟨h⟩
theorem ac2(h:p:=by exact zX () [_,_] results110 ⟨rfl,rfl,trivial⟩ rfl SB):p:=h
theorem ac3(h:p:=by rw[XO];exact hk16):p:=h
theorem ac4(h:B)(k:Y9 B->A:=by intro hh;refine k4 rfl rfl h21 rfl hh.x):A:=k ⟨h⟩
theorem ac5(h:B)(k:Y9 B->A:=by intro hh;refine zq (bI (aA [(0,.int .i64 _),(1,.int .i64 _),(2,.int .i64 _),(3,.agg _)] rfl kr) (show _=Value.agg (ar.mk ls[k].aG ls[k].seq (sl+1) res).cells from rfl)) rfl hh.x):A:=k ⟨h⟩
theorem ac6(h:p:=by exact⟨a,n,c,h1,h2,h3,h4,fun h0=>let ⟨b,o,e1,_,e2⟩:=h5 h0;⟨b,o,e1,e2⟩⟩):p:=h
theorem ac7(h:B)(k:Y9 B->A:=by intro hh;refine gX (fun w hw=>(SB w hw:St w0 (DS.H p s (row (.slice ba (bL t.nx (rs.map BS.l)).length bc) 5 1 (aE (bL t.nx (rs.map BS.l)))::bm lp p pre t::bP t::H)) w)) hh.x):A:=k ⟨h⟩
theorem ac8(h:p:=by rw[hok];simpa using h89):p:=h
theorem ac9(h:B)(k:Y9 B->A:=by intro hh;refine cD (cg (.slice _ _ _) rfl) rfl hh.x):A:=k ⟨h⟩
theorem ada(h:p:=by exact zX () [_] results3 ⟨rfl,trivial⟩ rfl (fun w hw=>((SC) w hw:St w0 H w))):p:=h
theorem adb(h:B)(k:Y9 B->A:=by intro hh;refine jN (fun w hw=>(SB w hw:St w0 (qi q sb p lp bp false::aF b3 (.cells v.cells 57 (0,0))::bm lp p eA x49.2.1::bP x49.2.1::cb.H y bp (DS.H p x49.1 H)) w)) hh.x):A:=k ⟨h⟩
theorem ade(h:p:=by exact by show 9-(i+1:Int).toNat<9-(i:Int).toNat;omega):p:=h
theorem adf(h:p:=by have:=congrArg List.length hzs;simp[s7]at this;omega):p:=h
theorem adg(h:B)(k:Y9 B->A:=by intro hh;refine zq (zm (.int .i64 _) rfl) rfl hh.x):A:=k ⟨h⟩
theorem adh(h:p:=by have:=congrArg List.length o5;rw[WZ,WZ]at this;omega):p:=h
theorem adi(h:B)(k:Y9 B->A:=by intro hh;refine zq (ck (bJ ax.list nE).toArray (sz:=2) underlying37 rfl rfl rfl) rfl hh.x):A:=k ⟨h⟩
theorem adj(h:p:=by first|exact⟨_,rfl,rfl,fun _=> .inl p32,fun h=>by cases h⟩|exact⟨_,rfl,rfl,fun h=> .inr (of_decide_eq_false h),fun h=>⟨p32,of_decide_eq_true h⟩⟩):p:=h
theorem adk(h:p:=by exact zX () [_] results163 ⟨⟨_,rfl,ak rfl⟩,trivial⟩ (by rw[e];rfl) SB):p:=h
theorem adl(h:B)(k:Y9 B->A:=by intro hh;refine cd (i:=9) kr hh.x):A:=k ⟨h⟩
theorem adm(h:p:=by simp[wl]):p:=h
theorem adn(h:p:=by first|exact⟨x37.1.1,x37.2.a,x37.2.c,x37.1.2,0,rfl,rfl,h37,.inl rfl⟩|exact⟨x27.1.1,x27.2.a,x27.2.c,x27.1.2,13,by rw[hbn];rfl,rfl,h27,.inr rfl⟩):p:=h
theorem ado(h:p:=by exact xl (by first|exact⟨k+1,x20.a,x20.c,by rw[←mW hk hth];rfl,rfl,om⟩|exact⟨k+1,a,c,by rw[jq hk hth,nu hk hth];rfl,by rw[jq hk hth],om⟩)):p:=h
theorem adp(h:B)(k:Y9 B->A:=by intro hh;refine zq (bI (ek 7 ls[k].list rfl (de _ 7 aJ.ae ls k hk) (aJ.ae _) dc) (show Value.agg ls[k].list.toArray=Value.agg ls[k].cells from rfl)) rfl hh.x):A:=k ⟨h⟩
theorem adq(h:p:=by simp[af.ae,aj.ae,ah.ae,cz.ae]):p:=h
theorem adr(h:B)(k:Y9 B->A:=by intro hh;refine iZ rfl rfl h21 hh.x):A:=k ⟨h⟩
theorem ads(h:B)(k:Y9 B->A:=by intro hh;refine zd hns0 rfl (zm (.int .i64 _) rfl) rfl hh.x):A:=k ⟨h⟩
theorem adt(h:p:=by show M+2+m.length<=M+1100;have:=hp.length_eq;have:=l7 nf (bS s.e2);omega):p:=h
theorem adu(h:p:=by exact xl (by first|exact⟨k+1,a28,c28,by rw[←mW hk hth];rfl,rfl,om⟩|exact⟨k+1,a,c,by rw[jq hk hth,nu hk hth];rfl,by rw[jq hk hth],om⟩)):p:=h
theorem adv(h:p:=by decide+kernel):p:=h
theorem adw(h:p:=by exact zX () [_,_] results97 ⟨⟨_,rfl,ak rfl⟩,rfl,trivial⟩ rfl SB):p:=h
theorem adx(h:B)(k:Y9 B->A:=by intro hh;refine zN (az (.slice _ _ _) rfl rfl ((gA hh.x)))):A:=k ⟨h⟩
theorem ady(h:B)(k:Y9 B->A:=by intro hh;refine cD (dQ (.bool _) rfl) rfl hh.x):A:=k ⟨h⟩
theorem adz(h:p:=by have:=iR cs 16;omega):p:=h
theorem adA(h:p:=by show 41-(r+1:Int).toNat<41-(r:Int).toNat;omega):p:=h
theorem adB(h:B)(k:Y9 B->A:=by intro hh;refine bB hns0 rfl rfl rfl h32 (zl rfl) rfl hh.x):A:=k ⟨h⟩
theorem adC(h:B)(k:Y9 B->A:=by intro hh;refine bB hns0 rfl rfl rfl h23 (zl rfl) rfl hh.x):A:=k ⟨h⟩
theorem adD(h:B)(k:Y9 B->A:=by intro hh;refine zN (az (.int .u8 _) rfl rfl ((gA hh.x)))):A:=k ⟨h⟩
theorem adE(h:B)(k:Y9 B->A:=by intro hh;refine bz (i:=12) kr rfl kr kr (aN rfl) rfl (bz (i:=13) kr rfl kr kr (zf 68 rfl rfl) rfl (bz (i:=14) kr rfl kr kr (zn rfl rfl) rfl hh.x))):A:=k ⟨h⟩
theorem adG(h:p:=by unfold ay;rw[←hP,if_neg (by first|omega|(simp_all;done)|(simp_all;omega)),if_pos (by first|omega|(simp_all;done)|(simp_all;omega))]):p:=h
theorem adH(h:p:=by show n-(i+1:Int).toNat<n-(i:Int).toNat;omega):p:=h
theorem adI(h:p:=by unfold kA;rw[if_neg om,if_neg om]):p:=h
theorem adJ(h:B)(k:Y9 B->A:=by intro hh;refine cd (i:=6) kr hh.x):A:=k ⟨h⟩
theorem adK(h:B)(k:Y9 B->A:=by intro hh;refine jf hns0 rfl (cg (.bool _) rfl) rfl hh.x):A:=k ⟨h⟩
theorem adL(h:p:=by exact zX () [_] results75 ⟨rfl,trivial⟩ (congrArg Value.bool (by show _=(decide ((bN b.l).1=0)&&decide (fH b.l=h));simp_all)) SB):p:=h
theorem adM(h:p:=by exact zX () [_] results81 ⟨rfl,trivial⟩ (congrArg Value.bool (by show _=(decide ((bN b.l).1=0)&&decide (fH b.l=h));simp_all)) SB):p:=h
theorem adN(h:B)(k:Y9 B->A:=by intro hh;refine bz (i:=5) kr rfl kr kr (aN rfl) rfl (bz (i:=6) kr rfl kr kr (zf 0 rfl rfl) rfl (bz (i:=7) kr rfl kr kr (zn rfl rfl) rfl hh.x))):A:=k ⟨h⟩
theorem adO(h:p:=by exact zX () [.bool (decide (l.map BS.l=l2.map BS.l))] results95 ⟨by simp only[he,decide_false,decide_true];rfl,trivial⟩ rfl SB):p:=h
theorem adQ(h:p:=by exact zX () [_] results222 ⟨rfl,trivial⟩ (congrArg Value.bool (by rw[W5];simp only[decide_eq_true_eq,Xm,false_iff];omega)) SB):p:=h
theorem adR(h:B)(k:Y9 B->A:=by intro hh;refine zX () [.bool (iG a b)] results136 ⟨hh.x,trivial⟩ rfl SB):A:=k ⟨h⟩
theorem adS(h:B)(k:Y9 B->A:=by intro hh;refine zq (ct (sz:=1) rfl rfl underlying46 rfl rfl om om) rfl hh.x):A:=k ⟨h⟩
theorem adT(h:p:=by rw[hat,if_neg hn41,if_pos hlt,if_neg hn57]):p:=h
theorem adU(h:p:=by rw[hat,if_neg hn31,if_pos hlt,if_neg hn47]):p:=h
theorem adV(h:p:=by exact zX (s,15) [_] results130 ⟨rfl,trivial⟩ rfl (fun w hw=>St.aC (SB w hw) (.inr (.inl ⟨h10,by simp_all,rfl,rfl⟩)))):p:=h
theorem adW(h:p:=by cases x;cases y;simp):p:=h
theorem adX(h:p:=by simp at hv';exact⟨hv'.1.symm,hv'.2.1.symm,hv'.2.2.symm⟩):p:=h
theorem adY(h:p:=by exact xl ⟨j+1,rfl,rfl,om,by rw[hps];exact decide_eq_false (by rintro⟨h1,h2⟩;dsimp only[aJ.abs]at h1 h2;omega)⟩):p:=h
theorem adZ(h:B)(k:Y9 B->A:=by intro hh;refine cd (i:=10) kr hh.x):A:=k ⟨h⟩
theorem ad0(h:B)(k:Y9 B->A:=by intro hh;refine cd (i:=12) kr hh.x):A:=k ⟨h⟩
theorem ad1(h:p:=by have h1:=CW t.nx rs k;have h2:=(gx (t.nx+k) om rs[k].l (by have:=hrl _ (W1 hk);omega)).1;have:=hrl _ (W1 hk);omega):p:=h
theorem ad2(h:p:=by exact zX () [_,_] results112 ⟨rfl,rfl,trivial⟩ rfl SB):p:=h
theorem ad3(h:p:=by simp only[cG.cells,cG.list,aj.list,W4]):p:=h
theorem ad4(h:p:=by exact zX ⟨none,0⟩ [_] results148 ⟨⟨_,rfl,ak rfl⟩,trivial⟩ rfl (fun w hw=>St.cP 5 (SB w hw:St w0 H w))):p:=h
theorem ad5(h:p:=by simpa using hb):p:=h
theorem ad6(h:p:=by exact zX () [.bool (decide (l=l2))] results94 ⟨by simp only[he,decide_false,decide_true];rfl,trivial⟩ rfl SB):p:=h
theorem ad7(h:p:=by exact xl (by first|exact⟨k+1,a19,c19,out++[k],rfl,rfl,om,hb.symm⟩|exact⟨k+1,a,c,out,rfl,rfl,om,hb.symm⟩)):p:=h
theorem ad8(h:p:=by exact⟨_,h w.heap.size,hw.alloc _⟩):p:=h
theorem ad9(h:B)(k:Y9 B->A:=by intro hh;refine cd (i:=5) kr hh.x):A:=k ⟨h⟩
theorem aea(h:p:=by simp[ah.cells,ah.list]):p:=h
theorem aeb(h:p:=by simp[bu.cells,bu.list]):p:=h
theorem aec(h:p:=by simp[cH.cells,cH.list]):p:=h
theorem aed(h:p:=by simp[af.cells,af.list]):p:=h
theorem aee(h:p:=by simp[row,bQ]):p:=h
theorem aef(h:p:=by first|exact hag|((repeat refine kR.tail ?_);exact hag)):p:=h
theorem aeg(h:p:=by unfold jh;rw[if_neg p12,if_neg p20,if_neg p28,if_pos p40,if_neg (by first|exact hth|exact fun h=>p50 h.2)]):p:=h
theorem aeh(h:p:=by simpa using h14):p:=h
theorem aei(h:B)(k:Y9 B->A:=by intro hh;refine bz (i:=6) kr rfl kr kr (zf 33 rfl rfl) rfl hh.x):A:=k ⟨h⟩
theorem aej(h:B)(k:Y9 B->A:=by intro hh;refine bz (i:=8) kr rfl kr kr (zf 34 rfl rfl) rfl hh.x):A:=k ⟨h⟩
theorem aek(h:B)(k:Y9 B->A:=by intro hh;refine bB hns0 rfl rfl rfl h40 (zf 0 rfl rfl) rfl hh.x):A:=k ⟨h⟩
theorem ael(h:p:=by repeat' (with_reducible first|exact hE.refl _|exact hE.nil _|refine hE.cons o6.sub ?_|refine hE.skip ?_)):p:=h
theorem aem(h:p:=by exact⟨h1.qk,h1.gR,h1.Av,h1.oH,h1.xd,h1.zero,h1.len,h1.short,h1.n1,h1.n2,h1.np,h1.oB,h1.nk,mO h1.pg⟩):p:=h
theorem aen(h:B)(k:Y9 B->A:=by intro hh;refine zq (DK rfl rfl) rfl (zq (Ex rfl rfl) rfl hh.x)):A:=k ⟨h⟩
theorem aeo(h:p:=by exact Fu () [_,_] results102 ⟨⟨_,rfl,ak rfl⟩,rfl,trivial⟩ (by rw[e];rfl) (cJ.st inferInstance)):p:=h
theorem aep(h:B)(k:Y9 B->A:=by intro hh;refine zk (zx (zS (zR (zq (zm (.int .i64 _) rfl) rfl (zq (zf 2 rfl rfl) rfl (zq (zl rfl) rfl hh.x))))))):A:=k ⟨h⟩
theorem aeq(h:p:=by exact this):p:=h
theorem aer(h:p:=by exact zX ⟨none,0⟩ [_,_] results59 ⟨rfl,rfl,trivial⟩ rfl (fun w hw=>(SB w hw:St w0 _ w).cP 5)):p:=h
theorem aes(h:p:=by simp[Value.cells,ah.size]):p:=h
theorem aet(h:B)(k:Y9 B->A:=by intro hh;refine zq (zf 103 rfl rfl) rfl hh.x):A:=k ⟨h⟩
theorem aeu(h:p:=by simp[Value.cells,aj.size,ah.size]):p:=h
theorem aev(h:p:=by simpa using hx):p:=h
theorem aex(h:p:=by have:=congrArg List.length hms;simp at this;omega):p:=h
theorem aey(h:p:=by exact zX () [_] results65 ⟨rfl,trivial⟩ (by first|(rw[if_pos om];rfl)|(rw[if_neg om];rfl)) SB):p:=h
theorem aez(h:p:=by rw[aO];omega):p:=h
theorem aeA(h:p:=by simp[aO]):p:=h
theorem aeB(h:p:=by exact Int.emod_eq_of_lt om (by exact_mod_cast h)):p:=h
theorem aeC(h:p:=by rw[show ah.abs (ah.mk x26.1.1.n x26.1.1.hash x26.1.1.batch x26.1.1.parts)=_ from h26];exact hsz):p:=h
theorem aeD(h:p:=by have:=(ef (jd ((bK l l.length).length/64) (bK l l.length) S8.init).list (i/4)).toNat_lt;omega):p:=h
theorem aeE(h:p:=by simp[IntKind.wrap,IntKind.bits,IntKind.signed]):p:=h
theorem aeF(h:p:=by show 32-(i+1:Int).toNat<32-(i:Int).toNat;omega):p:=h
theorem aeG(h:B)(k:Y9 B->A:=by intro hh;refine zN (az (.int .u64 _) rfl rfl ((gG hh.x)))):A:=k ⟨h⟩
theorem aeH(h:p:=by clear h;omega):p:=h
theorem aeI(h:p:=by simp only[aj.cells,aj.list,W4]):p:=h
theorem aeJ(h:p:=by simpa using h33):p:=h
theorem aeK(h:p:=by simp[aJ.cells,aJ.list,gn.list]):p:=h
theorem aeL(h:p:=by exact⟨i+1,rfl,rfl,om,hek1⟩):p:=h
theorem aeM(h:B)(k:Y9 B->A:=by intro hh;refine bz (i:=8) kr rfl kr kr (aN rfl) rfl (bz (i:=9) kr rfl kr kr (zf 3 rfl rfl) rfl hh.x)):A:=k ⟨h⟩
theorem aeN(h:B)(k:Y9 B->A:=by intro hh;refine bz (i:=7) kr rfl kr kr (aN rfl) rfl (bz (i:=8) kr rfl kr kr (zf 5 rfl rfl) rfl hh.x)):A:=k ⟨h⟩
theorem aeP(h:p:=by simp only[td];simp_all):p:=h
theorem aeQ(h:B)(k:Y9 B->A:=by intro hh;refine zd hns0 rfl (zm (.bool _) rfl) rfl hh.x):A:=k ⟨h⟩
theorem aeR(h:p:=by simp[gn.ae]):p:=h
theorem aeS(h:p:=by simp[bl.cells,bl.list]):p:=h
theorem aeT(h:p:=by simp[aM.cells,aM.list]):p:=h
theorem aeU(h:p:=by simp[bq.cells,bq.list]):p:=h
theorem aeV(h:p:=by exact⟨e₂,a₂,w₂,hq₂,.of_steps (Steps.trans harr (.one step_inLoop)) harr₂⟩):p:=h
theorem aeW(h:p:=by rw[←hv3];first|omega|(simp only[show(3:Nat)+1=4 from rfl]at p51;split at p51<;>omega)):p:=h
theorem aeX(h:p:=by unfold eL;rw[if_neg om,if_pos (by first|exact .inl om|exact .inr (by simpa using h25))]):p:=h
theorem aeY(h:B)(k:Y9 B->A:=by intro hh;refine zq (oi (key:=nm) (enc:=encS) (ev:=BS.val) (zB) rfl rfl underlying74 rl) rfl hh.x):A:=k ⟨h⟩
theorem aeZ(h:p:=by exact xl (by first|exact⟨k+1,a49,c49,rfl,rfl,om⟩|exact⟨k+1,ga,gc,rfl,rfl,om⟩)):p:=h
theorem ae0(h:p:=by exact zX () [_] results77 ⟨rfl,trivial⟩ rfl (by rw[e1];exact cJ.st inferInstance)):p:=h
theorem ae1(h:p:=by simp[aJ.ae,gn.ae]):p:=h
theorem ae2(h:p:=by rw[hzs,WX];have:=X1 (cj vs) (jr 61);rw[lW]at this;simp only[kV];split<;>simp<;>omega):p:=h
theorem ae3(h:B)(k:Y9 B->A:=by intro hh;refine zN (tq (key:=a.name) (enc:=encS) (ev:=BS.val) rfl rfl underlying74 ((gG hh.x)))):A:=k ⟨h⟩
theorem ae4(h:B)(k:Y9 B->A:=by intro hh;refine lP (bm lp p pre t) hh.x):A:=k ⟨h⟩
theorem ae5(h:p:=by rw[Xj];omega):p:=h
theorem ae6(h:B)(k:Y9 B->A:=by intro hh;refine zq (bV rfl rfl underlying31) rfl hh.x):A:=k ⟨h⟩
theorem ae8(h:B)(k:Y9 B->A:=by intro hh;refine zq (aA [(0,(.int .i64 _)),(1,(.string _)),(3,.slice _ _ _)] rfl kr) rfl hh.x):A:=k ⟨h⟩
theorem ae9(h:B)(k:Y9 B->A:=by intro hh;refine zq (aA [(0,(.pointer _)),(1,(.string _)),(4,(.int .u64 _))] rfl kr) rfl hh.x):A:=k ⟨h⟩
theorem afa(h:p:=by exact zX ⟨a7,c7⟩ [_,_] results139 ⟨⟨_,rfl,ak rfl⟩,rfl,trivial⟩ rfl SB):p:=h
theorem afb(h:p:=by exact zX () [] results133 trivial rfl SB):p:=h
theorem afc(h:p:=by simp_all):p:=h
theorem afd(h:B)(k:Y9 B->A:=by intro hh;refine al func24 rfl ntmps24 rfl (gG hh.x)):A:=k ⟨h⟩
theorem afe(h:p:=by cases hx):p:=h
theorem aff(h:p:=by exact zA):p:=h
theorem afg(h:p:=by unfold k9;rw[if_neg (by simpa using h14),hi,if_pos (show ¬(2:Int)=0 by decide)]):p:=h
theorem afh(h:p:=by simpa using h):p:=h
theorem afi(h:p:=by exact zX () [] results134 trivial rfl (by rw[e1,e2];exact cJ.st inferInstance)):p:=h
theorem afk(h:p:=by rw[h15];omega):p:=h
theorem afl(h:p:=by rw[h20];omega):p:=h
theorem afm(h:p:=by rw[htk];rfl):p:=h
theorem afn(h:B)(k:Y9 B->A:=by intro hh;refine zz (zx (zS (zR (zq (zl rfl) rfl (zq (zm (.int .i64 _) rfl) rfl hh.x)))))):A:=k ⟨h⟩
theorem afo(h:p:=by simp[bG.ae]):p:=h
theorem afp(h:p:=by simp[binOp,Op.intArith,wrap_i64 h1 h2]):p:=h
theorem afr(h:p:=by have:=hrl _ (W1 hk);omega):p:=h
theorem afs(h:p:=by simpa using h10):p:=h
theorem afv(h:B)(k:Y9 B->A:=by intro hh;refine zq (aA [(1,(.int .i64 _)),(2,(.agg _)),(3,(.agg _))] rfl kr) rfl hh.x):A:=k ⟨h⟩
theorem afw(h:p:=by exact zX ⟨a7,c7⟩ [_] results83 ⟨⟨_,rfl,ak rfl⟩,trivial⟩ rfl SB):p:=h
theorem afx(h:p:=by unfold oA;rw[if_neg om,if_pos om,if_neg (by rintro⟨h1,h2⟩;simp_all)]):p:=h
theorem afy(h:p:=by unfold sE;rw[if_neg om,if_pos om,if_neg (by rintro⟨h1,h2⟩;simp_all)]):p:=h
theorem afz(h:p:=by have:=vd (s:=s) (f:=f) (n1:=n1) (n2:=n2) (m1:=m1) (m2:=m2) hcs hrs;omega):p:=h
theorem afA(h:p:=by rw[fL];omega):p:=h
theorem afB(h:p:=by rw[Xe];omega):p:=h
theorem afC(h:p:=by exact zX () [_,_] results113 ⟨⟨_,rfl,ak rfl⟩,rfl,trivial⟩ rfl SB):p:=h
theorem afE(h:p:=by simpa using hj):p:=h
theorem afF(h:p:=by have:=bw (dR cs 16) (by have:=iR cs 16;omega);have:=kY hcs 16 om;omega):p:=h
theorem afG(h:B)(k:Y9 B->A:=by intro hh;refine cD (bn rfl rfl om om) rfl hh.x):A:=k ⟨h⟩
theorem afH(h:p:=by rw[←g1,←w2];exact h):p:=h
theorem afI(h:B)(k:Y9 B->A:=by intro hh;refine iZ rfl rfl h5 hh.x):A:=k ⟨h⟩
theorem afJ(h:p:=by rw[show([b].map BS.l)=[b.l]from rfl,nd];have:=gx t.nx om b.l om;omega):p:=h
theorem afK(h:p:=by exact by show ls.length-(k+1:Int).toNat<ls.length-(k:Int).toNat;omega):p:=h
theorem afL(h:B)(k:Y9 B->A:=by intro hh;refine zd hns0 rfl (zl rfl) rfl hh.x):A:=k ⟨h⟩
theorem afM(h:p:=by show 3<=maxLen;unfold maxLen;omega):p:=h
theorem afN(h:p:=by show _<2^16;omega):p:=h
theorem afO(h:p:=by show x34.2.length-(k+1:Int).toNat<x34.2.length-(k:Int).toNat;omega):p:=h
theorem afP(h:p:=by exact zX ⟨x30.a,x30.c⟩ [_] results162 ⟨rfl,trivial⟩ rfl SB):p:=h
theorem afQ(h:p:=by simp[aH.ae]):p:=h
theorem afR(h:B)(k:Y9 B->A:=by intro hh;refine zq (zf 104 rfl rfl) rfl hh.x):A:=k ⟨h⟩
theorem afT(h:p:=by simp[ar.cells,ar.list]):p:=h
theorem afU(h:p:=by simp[cI.ae]):p:=h
theorem afV(h:p:=by simp[ca.cells,ca.list]):p:=h
theorem afW(h:p:=by simp[aR.cells,aR.list]):p:=h
theorem afX(h:p:=by simp[cS.cells,cS.list]):p:=h
theorem afY(h:p:=by exact zX () [_] results51 ⟨⟨_,rfl,ak rfl⟩,trivial⟩ rfl SB):p:=h
theorem afZ(h:p:=by exact zX () [_] results17 ⟨⟨_,rfl,ak rfl⟩,trivial⟩ rfl SB):p:=h
theorem af0(h:B)(k:Y9 B->A:=by intro hh;refine zS (zR (zq (za (.bool _) rfl) rfl (zz (zx (zQ (zr hh.x))))))):A:=k ⟨h⟩
theorem af1(h:p:=by first|exact⟨rfl,by rw[nz hpos]⟩|exact⟨rfl,by rw[ny hnil]⟩):p:=h
theorem af2(h:p:=by rw[h14];omega):p:=h
theorem af3(h:B)(k:Y9 B->A:=by intro hh;refine zq (aA [(1,(.pointer _)),(3,(.pointer _))] rfl kr) rfl hh.x):A:=k ⟨h⟩
theorem af4(h:B)(k:Y9 B->A:=by intro hh;refine zq (zf 34 rfl rfl) rfl hh.x):A:=k ⟨h⟩
theorem af5(h:p:=by rintro(⟨hb,hn⟩|hn|hn)<;>first|omega|(rw[hb]at h25;cases h25)):p:=h
theorem af6(h:B)(k:Y9 B->A:=by intro hh;refine zq (bn rfl rfl om om) rfl (zq (vP (k:=k) rfl hk) rfl hh.x)):A:=k ⟨h⟩
theorem af7(h:B)(k:Y9 B->A:=by intro hh;refine zq (bn rfl rfl om om) rfl (zq (kl (k:=i) rfl hi) rfl hh.x)):A:=k ⟨h⟩
theorem af8(h:p:=by exact xl ⟨k+1,x70.2,x70.1,rfl,rfl,om,hnx.1,hnx.2.1,hnx.2.2⟩):p:=h
theorem af9(h:B)(k:Y9 B->A:=by intro hh;refine zX () [.bool (jI s)] results215 ⟨hh.x,trivial⟩ rfl SB):A:=k ⟨h⟩
theorem aga(h:p:=by exact zX ⟨a27,c27⟩ [_] results172 ⟨rfl,trivial⟩ rfl SB):p:=h
theorem agb(h:B)(k:Y9 B->A:=by intro hh;refine zq (ck (wl Kc).toArray underlying333 rfl rfl kr) rfl hh.x):A:=k ⟨h⟩
theorem agc(h:B)(k:Y9 B->A:=by intro hh;refine qf (bm b29 p pre (oz ga gc m (eF cf (m.take k) jV))) hh.x):A:=k ⟨h⟩
theorem agd(h:p:=by rcases hfact with h4|⟨-,h6,-⟩<;>first|omega|(rw[h6];omega)):p:=h
theorem age(h:p:=by exact zX () [_] results235 ⟨rfl,trivial⟩ (by rw[e];rfl) SB):p:=h
theorem agf(h:p:=by exact zX ⟨a54,c54⟩ [_] results46 ⟨rfl,trivial⟩ rfl SB):p:=h
theorem agh(h:B)(k:Y9 B->A:=by intro hh;refine bB hns0 rfl rfl rfl h32 (cg (.slice _ _ _) rfl) rfl hh.x):A:=k ⟨h⟩
theorem agi(h:B)(k:Y9 B->A:=by intro hh;refine bB hns0 rfl rfl rfl h45 (cg (.slice _ _ _) rfl) rfl hh.x):A:=k ⟨h⟩
theorem agj(h:B)(k:Y9 B->A:=by intro hh;refine bB hns0 rfl rfl rfl h57 (cg (.slice _ _ _) rfl) rfl hh.x):A:=k ⟨h⟩
theorem agk(h:p:=by rw[Xu (by rw[q1];simp;omega)];congr 1;simp only[q1];rw[Yy hk]):p:=h
theorem agl(h:B)(k:Y9 B->A:=by intro hh;refine bB hns0 rfl rfl rfl h41 (zm (.slice _ _ _) rfl) rfl hh.x):A:=k ⟨h⟩
theorem agm(h:p:=by simp[Value.oneCell']):p:=h
theorem agn(h:p:=by rw[hs.slot];exact hl):p:=h
theorem ago(h:p:=by rw[XO];exact hk):p:=h
theorem agp(h:p:=by exact⟨(),rfl,hw⟩):p:=h
theorem agq(h:p:=by rw[hie];simp):p:=h
theorem agr(h:B)(k:Y9 B->A:=by intro hh;refine bB hns0 rfl rfl rfl h32 (cg (.int .i64 _) rfl) rfl hh.x):A:=k ⟨h⟩
theorem ags(h:B)(k:Y9 B->A:=by intro hh;refine bB hns0 rfl rfl rfl h45 (cg (.int .i64 _) rfl) rfl hh.x):A:=k ⟨h⟩
theorem agt(h:B)(k:Y9 B->A:=by intro hh;refine bB hns0 rfl rfl rfl h57 (cg (.int .i64 _) rfl) rfl hh.x):A:=k ⟨h⟩
theorem agu(h:p:=by simp[Value.cells,dO _ 2 ax.ae]):p:=h
theorem agv(h:B)(k:Y9 B->A:=by intro hh;refine bz (i:=17) kr rfl kr kr (za (.int .i64 _) rfl) rfl hh.x):A:=k ⟨h⟩
theorem agw(h:p:=by simpa using p10):p:=h
theorem agx(h:p:=by simpa using p19):p:=h
theorem agy(h:B)(k:Y9 B->A:=by intro hh;refine bB hns0 rfl rfl rfl h41 (zm (.int .i64 _) rfl) rfl hh.x):A:=k ⟨h⟩
theorem agz(h:p:=by exact zX ⟨ao,co⟩ [_] results46 ⟨rfl,trivial⟩ rfl SB):p:=h
theorem agA(h:B)(k:Y9 B->A:=by intro hh;refine bB hns3 rfl rfl rfl h70 (zm (.pointer _) rfl) rfl hh.x):A:=k ⟨h⟩
theorem agB(h:B)(k:Y9 B->A:=by intro hh;refine bB hns0 rfl rfl rfl h23 (zL rfl underlying47) rfl hh.x):A:=k ⟨h⟩
theorem agC(h:B)(k:Y9 B->A:=by intro hh;refine gS rfl (az (.int .u32 _) rfl rfl (⟨SB,(gA hh.x)⟩))):A:=k ⟨h⟩
theorem agD(h:B)(k:Y9 B->A:=by intro hh;refine bB hns1 rfl rfl rfl h54 (zL rfl underlying51) rfl hh.x):A:=k ⟨h⟩
theorem agE(h:B)(k:Y9 B->A:=by intro hh;refine zd hns3 rfl (za (.bool _) rfl) rfl (gz (zx (zQ hh.x)))):A:=k ⟨h⟩
theorem agF(h:p:=by show l.length-(k+1:Int).toNat<l.length-(k:Int).toNat;omega):p:=h
theorem agG(h:B)(k:Y9 B->A:=by intro hh;refine cD (mL rfl rfl) rfl hh.x):A:=k ⟨h⟩
theorem agH(h:p:=by have:=(hsm _ (W1 hk)).1;omega):p:=h
theorem agI(h:p:=by unfold maxLen;omega):p:=h
theorem agJ(h:p:=by exact zX () [_,_] results193 ⟨rfl,rfl,trivial⟩ rfl SB):p:=h
theorem agK(h:B)(k:Y9 B->A:=by intro hh;refine bB hns0 rfl rfl rfl h32 (cm rfl 38 (fw hi)) rfl hh.x):A:=k ⟨h⟩
theorem agL(h:B)(k:Y9 B->A:=by intro hh;refine bB hns0 rfl rfl rfl h45 (cm rfl 38 (fw hi)) rfl hh.x):A:=k ⟨h⟩
theorem agM(h:B)(k:Y9 B->A:=by intro hh;refine bB hns0 rfl rfl rfl h57 (cm rfl 38 (fw hi)) rfl hh.x):A:=k ⟨h⟩
theorem agN(h:p:=by simp[Yc];exact tf _):p:=h
theorem agO(h:p:=by rw[l6 l i om];omega):p:=h
theorem agP(h:p:=by simp;try omega):p:=h
theorem agQ(h:p:=by simpa using hp):p:=h
theorem agR(h:p:=by exact zX () [_,_] results24 ⟨rfl,rfl,trivial⟩ rfl SB):p:=h
theorem agS(h:B)(k:Y9 B->A:=by intro hh;refine bB hns0 rfl rfl rfl h32 (bn rfl rfl om om) rfl hh.x):A:=k ⟨h⟩
theorem agT(h:B)(k:Y9 B->A:=by intro hh;refine bB hns0 rfl rfl rfl h45 (bn rfl rfl om om) rfl hh.x):A:=k ⟨h⟩
theorem agU(h:B)(k:Y9 B->A:=by intro hh;refine bB hns0 rfl rfl rfl h57 (bn rfl rfl om om) rfl hh.x):A:=k ⟨h⟩
theorem agV(h:p:=by unfold fh;rw[if_neg om,if_neg (by first|omega|simp_all)]):p:=h
theorem agW(h:B)(k:Y9 B->A:=by intro hh;refine bB hns0 rfl rfl rfl h41 (bn rfl rfl om om) rfl hh.x):A:=k ⟨h⟩
theorem agX(h:p:=by exact hb.imp id (fun⟨j,h1,h2,h3⟩=>⟨j,om,h2,h3⟩)):p:=h
theorem agY(h:p:=by simp[aj.ae]):p:=h
theorem agZ(h:p:=by unfold cR;rw[if_neg om,←hP,if_neg om,pW q3,if_pos om]):p:=h
theorem ag0(h:p:=by rw[decide_eq_false (by intro h;subst h;exact p10 rfl)]):p:=h
theorem ag2(h:B)(k:Y9 B->A:=by intro hh;refine gg rfl (az (.int .u64 _) rfl rfl (⟨SB,hh.x⟩))):A:=k ⟨h⟩
theorem ag3(h:p:=by exact⟨none,0,0,rfl,rfl,W8 _,dc,fun h=>absurd h dc⟩):p:=h
theorem ag4(h:p:=by rw[nr,XM,List.filterMap_cons_none hw];simpa using hzi):p:=h
theorem ag5(h:B)(k:Y9 B->A:=by intro hh;refine bB hns0 rfl rfl rfl h17 (zf 34 rfl rfl) rfl hh.x):A:=k ⟨h⟩
theorem ag6(h:B)(k:Y9 B->A:=by intro hh;refine bB hns0 rfl rfl rfl h23 (zf 34 rfl rfl) rfl hh.x):A:=k ⟨h⟩
theorem ag7(h:B)(k:Y9 B->A:=by intro hh;refine bB hns0 rfl rfl rfl h23 (zf 33 rfl rfl) rfl hh.x):A:=k ⟨h⟩
theorem ag8(h:B)(k:Y9 B->A:=by intro hh;refine bB hns1 rfl rfl rfl h41 (zf 33 rfl rfl) rfl hh.x):A:=k ⟨h⟩
theorem ag9(h:p:=by exact⟨e,a',w',hq,.of_steps (.one step_loop) harr⟩):p:=h
theorem aha(h:p:=by have:=hs.each _ hmem;omega):p:=h
theorem ahb(h:B)(k:Y9 B->A:=by intro hh;refine zd hns3 rfl (bt rfl rfl underlying129) rfl hh.x):A:=k ⟨h⟩
theorem ahc(h:p:=by exact⟨congrArg bG.view this,congrArg bG.dZ this⟩):p:=h
theorem ahd(h:B)(k:Y9 B->A:=by intro hh;refine jf hns0 rfl (kc (.bool _) rfl h45 rfl) rfl hh.x):A:=k ⟨h⟩
theorem ahe(h:p:=by have:=congrArg List.length hms;simp[iA]at this;omega):p:=h
theorem ahf(h:p:=by rw[h10];omega):p:=h
theorem ahg(h:B)(k:Y9 B->A:=by intro hh;refine bB hns0 rfl rfl rfl h32 (zf 3 rfl rfl) rfl hh.x):A:=k ⟨h⟩
theorem ahh(h:B)(k:Y9 B->A:=by intro hh;refine bB hns1 rfl rfl rfl rfl (zf 0 rfl rfl) rfl hh.x):A:=k ⟨h⟩
theorem ahi(h:p:=by first|exact .inl hdn|exact .inr (by simpa using h37)):p:=h
theorem ahj(h:p:=by rw[hzi,nr,XM,W4,W4,List.filterMap_cons_some hw];rfl):p:=h
theorem ahk(h:p:=by exact zX () [_] results222 ⟨rfl,trivial⟩ rfl SB):p:=h
theorem ahm(h:p:=by first|(simp_all;done)|(rintro⟨q1,q2⟩;simp_all)):p:=h
theorem ahn(h:p:=by exact zX () [_] results68 ⟨rfl,trivial⟩ rfl SB):p:=h
theorem aho(h:p:=by exact zX () [_] results52 ⟨rfl,trivial⟩ rfl SB):p:=h
theorem ahp(h:p:=by exact zX () [_] results18 ⟨rfl,trivial⟩ rfl SB):p:=h
theorem ahq(h:p:=by simp[Value.cells,aJ.size]):p:=h
theorem ahr(h:B)(k:Y9 B->A:=by intro hh;refine gg rfl (az (.bool _) rfl rfl (⟨SB,hh.x⟩))):A:=k ⟨h⟩
theorem aht(h:p:=by have:=congrArg List.length hls;simp at this;omega):p:=h
theorem ahu(h:p:=by show(bL t.nx (rs.map BS.l)).length<=2000000;omega):p:=h
theorem ahv(h:p:=by exact xl ⟨i+1,_,rfl,rfl,om,hr3,hpk.trans hat⟩):p:=h
theorem ahw(h:B)(k:Y9 B->A:=by intro hh;refine cX rfl rfl (dW (zn rfl rfl) (⟨SB,hh.x⟩))):A:=k ⟨h⟩
theorem ahx(h:p:=by obtain⟨_,i,_,_,hi,hs⟩:=ht.spec;simp[ux,hi,hs]):p:=h
theorem ahy(h:B)(k:Y9 B->A:=by intro hh;refine zd hns0 rfl (zm (.slice _ _ _) rfl) rfl hh.x):A:=k ⟨h⟩
theorem ahz(h:p:=by simp[row,bQ,hc0]):p:=h
theorem ahA(h:p:=by first|omega|(simp;omega)):p:=h
theorem ahC(h:B)(k:Y9 B->A:=by intro hh;refine cu (DS.H p s (bm lp p pre t::bP t::H)) hh.x):A:=k ⟨h⟩
theorem ahD(h:p:=by rw[←h15];omega):p:=h
theorem ahE(h:B)(k:Y9 B->A:=by intro hh;refine jf hns0 rfl (cg (.int .i64 _) rfl) rfl hh.x):A:=k ⟨h⟩
theorem ahF(h:B)(k:Y9 B->A:=by intro hh;refine zd hns1 rfl (zm (.int .i64 _) rfl) rfl hh.x):A:=k ⟨h⟩
theorem ahG(h:p:=by rw[XO];exact hc6):p:=h
theorem ahH(h:p:=by have:=hfk.2;have:=hfk.1.slot;constructor<;>omega):p:=h
theorem ahI(h:p:=by simp[Program.elem,ht.ht]):p:=h
theorem ahJ(h:p:=by exact hw'.setObj):p:=h
theorem ahK(h:p:=by simp at hn;omega):p:=h
theorem ahL(h:p:=by rw[Xy,WW om];rfl):p:=h
theorem ahM(h:p:=by rw[←h14];omega):p:=h
theorem ahN(h:B)(k:Y9 B->A:=by intro hh;refine zd hns1 rfl (zm (.pointer _) rfl) rfl hh.x):A:=k ⟨h⟩
theorem ahO(h:B)(k:Y9 B->A:=by intro hh;refine zd hns3 rfl (zm (.pointer _) rfl) rfl hh.x):A:=k ⟨h⟩
theorem ahP(h:p:=by show 61-(v+1:Int).toNat<61-(v:Int).toNat;omega):p:=h
theorem ahQ(h:B)(k:Y9 B->A:=by intro hh;refine bB hns3 rfl rfl rfl h70 (aN rfl) rfl hh.x):A:=k ⟨h⟩
theorem ahR(h:B)(k:Y9 B->A:=by intro hh;refine bB hns3 rfl rfl rfl h70 (zl rfl) rfl hh.x):A:=k ⟨h⟩
theorem ahS(h:B)(k:Y9 B->A:=by intro hh;refine qf (aF sb (.cells t.cells 87 (0,0))) hh.x):A:=k ⟨h⟩
theorem ahT(h:p:=by show 10-(i+1:Int).toNat<10-(i:Int).toNat;omega):p:=h
theorem ahU(h:B)(k:Y9 B->A:=by intro hh;refine bB hns0 rfl rfl rfl h17 (zl rfl) rfl hh.x):A:=k ⟨h⟩
theorem ahV(h:B)(k:Y9 B->A:=by intro hh;refine bB hns1 rfl rfl rfl h41 (zl rfl) rfl hh.x):A:=k ⟨h⟩
theorem ahW(h:B)(k:Y9 B->A:=by intro hh;refine bB hns0 rfl rfl rfl h40 (aN rfl) rfl hh.x):A:=k ⟨h⟩
theorem ahX(h:B)(k:Y9 B->A:=by intro hh;refine bB hns0 rfl rfl rfl h40 (zl rfl) rfl hh.x):A:=k ⟨h⟩
theorem ahY(h:p:=by show 64-(i+1:Int).toNat<64-(i:Int).toNat;omega):p:=h
theorem ahZ(h:p:=by simp[binOp,Op.intArith]):p:=h
theorem ah1(h:p:=by simpa using h39):p:=h
theorem ah3(h:B)(k:Y9 B->A:=by intro hh;refine zd hns3 rfl (zm (.bool _) rfl) rfl hh.x):A:=k ⟨h⟩
theorem ah4(h:B)(k:Y9 B->A:=by intro hh;refine cd (i:=2) kr hh.x):A:=k ⟨h⟩
theorem ah5(h:p:=by simp[binOp,Op.intBits]):p:=h
theorem ah6(h:p:=by simp[aJ.cells,aJ.list]):p:=h
theorem ah7(h:B)(k:Y9 B->A:=by intro hh;refine zd hns0 rfl (bn rfl rfl om om) rfl hh.x):A:=k ⟨h⟩
theorem ah8(h:B)(k:Y9 B->A:=by intro hh;refine zq (aA [(3,(.map _))] rfl kr) rfl hh.x):A:=k ⟨h⟩
theorem ah9(h:p:=by show(bL t.nx (rs.map BS.l)).length<=K;omega):p:=h
theorem aia(h:B)(k:Y9 B->A:=by intro hh;refine zq (aA [(0,(.agg _))] rfl kr) rfl hh.x):A:=k ⟨h⟩
theorem aib(h:p:=by rw[←hqu];first|(left;omega)|(right;omega)):p:=h
theorem aic(h:p:=by show cl.l.length<=2000000;rw[hcl];exact hb):p:=h
theorem aid(h:B)(k:Y9 B->A:=by intro hh;refine al func140 rfl ntmps140 rfl (gG hh.x)):A:=k ⟨h⟩
theorem aie(h:B)(k:Y9 B->A:=by intro hh;refine al func104 rfl ntmps104 rfl (gG hh.x)):A:=k ⟨h⟩
theorem aif(h:B)(k:Y9 B->A:=by intro hh;refine al func181 rfl ntmps181 rfl (gG hh.x)):A:=k ⟨h⟩
theorem aih(h:B)(k:Y9 B->A:=by intro hh;refine al func107 rfl ntmps107 rfl (gG hh.x)):A:=k ⟨h⟩
theorem aii(h:p:=by rw[hat,if_neg hn41,if_pos hlt,if_pos hc57]):p:=h
theorem aij(h:p:=by rw[hat,if_neg hn31,if_pos hlt,if_pos hc47]):p:=h
theorem aik(h:p:=by unfold ij;rw[if_neg hq];exact uM hm hok.gR):p:=h
theorem ail(h:B)(k:Y9 B->A:=by intro hh;refine zN (az (.slice _ _ _) rfl rfl (hh.x))):A:=k ⟨h⟩
theorem aim(h:p:=by rw[show(ed x20.2.l 9).e=0 from hek];decide):p:=h
theorem ain(h:B)(k:Y9 B->A:=by intro hh;refine zN (az (.map _) rfl rfl ((gG hh.x)))):A:=k ⟨h⟩
theorem aio(h:p:=by show(fY v.abs).length<=40000;rw[jl];omega):p:=h
theorem aip(h:B)(k:Y9 B->A:=by intro hh;refine al func99 rfl ntmps99 rfl (gG hh.x)):A:=k ⟨h⟩
theorem aiq(h:p:=by have:=h34.1.length_eq;simp at this;omega):p:=h
theorem air(h:B)(k:Y9 B->A:=by intro hh;refine al func21 rfl ntmps21 rfl (gG hh.x)):A:=k ⟨h⟩
theorem ais(h:B)(k:Y9 B->A:=by intro hh;refine al func74 rfl ntmps74 rfl (gG hh.x)):A:=k ⟨h⟩
theorem ait(h:B)(k:Y9 B->A:=by intro hh;refine zd hns0 rfl (zf 3 rfl rfl) rfl hh.x):A:=k ⟨h⟩
theorem aiu(h:p:=by unfold j7;cases(!k.cO||iG a k.now)<;>rfl):p:=h
theorem aiv(h:p:=by have:=YT kp (2^(i%64));show _<2^64;omega):p:=h
theorem aiw(h:B)(k:Y9 B->A:=by intro hh;refine al func26 rfl ntmps26 rfl (gG hh.x)):A:=k ⟨h⟩
theorem aix(h:B)(k:Y9 B->A:=by intro hh;refine al func68 rfl ntmps68 rfl (gG hh.x)):A:=k ⟨h⟩
theorem aiy(h:B)(k:Y9 B->A:=by intro hh;refine al func54 rfl ntmps54 rfl (gG hh.x)):A:=k ⟨h⟩
theorem aiz(h:B)(k:Y9 B->A:=by intro hh;refine al func22 rfl ntmps22 rfl (gG hh.x)):A:=k ⟨h⟩
theorem aiA(h:B)(k:Y9 B->A:=by intro hh;refine al func51 rfl ntmps51 rfl (gG hh.x)):A:=k ⟨h⟩
theorem aiB(h:B)(k:Y9 B->A:=by intro hh;refine al func52 rfl ntmps52 rfl (gG hh.x)):A:=k ⟨h⟩
theorem aiC(h:B)(k:Y9 B->A:=by intro hh;refine al func17 rfl ntmps17 rfl (gG hh.x)):A:=k ⟨h⟩
theorem aiD(h:B)(k:Y9 B->A:=by intro hh;refine al func18 rfl ntmps18 rfl (gG hh.x)):A:=k ⟨h⟩
theorem aiE(h:p:=by refine⟨?_,rfl⟩;unfold tg;rw[h34];rfl):p:=h
theorem aiF(h:B)(k:Y9 B->A:=by intro hh;refine al func27 rfl ntmps27 rfl (gG hh.x)):A:=k ⟨h⟩
theorem aiG(h:p:=by exact⟨h1.2.1,val x,h2 a h1,x,rfl,h3⟩):p:=h
theorem aiH(h:B)(k:Y9 B->A:=by intro hh;refine zd hns1 rfl (zn rfl rfl) rfl hh.x):A:=k ⟨h⟩
theorem aiI(h:B)(k:Y9 B->A:=by intro hh;refine zd hns2 rfl (zn rfl rfl) rfl hh.x):A:=k ⟨h⟩
theorem aiJ(h:p:=by exact Yk (Nat.mul_le_mul_left _ om) hy):p:=h
theorem aiK(h:B)(k:Y9 B->A:=by intro hh;refine cD (cg (.pointer _) rfl) rfl hh.x):A:=k ⟨h⟩
theorem aiL(h:B)(k:Y9 B->A:=by intro hh;refine al func8 rfl ntmps8 rfl (gG hh.x)):A:=k ⟨h⟩
theorem aiM(h:B)(k:Y9 B->A:=by intro hh;refine jf hns0 rfl (mL rfl rfl) rfl hh.x):A:=k ⟨h⟩
theorem aiN(h:B)(k:Y9 B->A:=by intro hh;refine zd hns1 rfl (eR rfl rfl) rfl hh.x):A:=k ⟨h⟩
theorem aiO(h:B)(k:Y9 B->A:=by intro hh;refine zd hns0 rfl (ph rfl rfl) rfl hh.x):A:=k ⟨h⟩
theorem aiP(h:p:=by show(gZ ls[k].abs).length<=40000;omega):p:=h
theorem aiQ(h:p:=by exact xl ⟨k+1,a42,c42,rfl,rfl,om⟩):p:=h
theorem aiR(h:p:=by rw[←congrArg List.length hzk.aT,WZ]):p:=h
theorem Za(h:B)(k:Y9 B->A:=by intro hh;refine zW ?_;exact gG hh.x):A:=k ⟨h⟩
theorem Zb(h:B)(k:Y9 B->A:=by intro hh;refine yE ?_;exact gG hh.x):A:=k ⟨h⟩
theorem Zc(h:B)(k:Y9 B->A:=by intro hh;refine aI rfl rfl ?_;exact gG hh.x):A:=k ⟨h⟩
theorem Zd(h:B)(k:Y9 B->A:=by intro hh;refine aW ?_;exact gG hh.x):A:=k ⟨h⟩
theorem Ze(h:B)(k:Y9 B->A:=by intro hh;refine yT ?_;exact gG hh.x):A:=k ⟨h⟩
theorem Zf(h:B)(k:Y9 B->A:=by intro hh;refine eD (cc ?_);exact gG hh.x):A:=k ⟨h⟩
theorem Zg(h:B)(k:Y9 B->A:=by intro hh;refine zq (aA [] rfl kr) rfl ?_;exact gG hh.x):A:=k ⟨h⟩
theorem Zh(h:B)(k:Y9 B->A:=by intro hh;refine zq (bF rfl rfl underlying3 om om) rfl ?_;exact gG hh.x):A:=k ⟨h⟩
theorem Zi(h:B)(k:Y9 B->A:=by intro hh;refine bM rfl rfl ?_;exact gG hh.x):A:=k ⟨h⟩
theorem Zj(h:B)(k:Y9 B->A:=by intro hh;refine zq (zf 37 rfl rfl) rfl ?_;exact gG hh.x):A:=k ⟨h⟩
theorem Zk(h:B)(k:Y9 B->A:=by intro hh;refine eJ ?_;exact gG hh.x):A:=k ⟨h⟩
theorem Zl(h:B)(k:Y9 B->A:=by intro hh;refine eB ?_;exact gG hh.x):A:=k ⟨h⟩
theorem Zm(h:B)(k:Y9 B->A:=by intro hh;refine zq (bt rfl rfl underlying25) rfl ?_;exact gG hh.x):A:=k ⟨h⟩
theorem Zn(h:B)(k:Y9 B->A:=by intro hh;refine zq (bt rfl rfl underlying27) rfl ?_;exact gG hh.x):A:=k ⟨h⟩
theorem Zo(h:B)(k:Y9 B->A:=by intro hh;refine zq (bn rfl rfl om om) rfl ?_;exact gG hh.x):A:=k ⟨h⟩
theorem Zp(h:B)(k:Y9 B->A:=by intro hh;refine zq (zf 103 rfl rfl) rfl ?_;exact gG hh.x):A:=k ⟨h⟩
theorem Zq(h:B)(k:Y9 B->A:=by intro hh;refine zq (dq (.pointer _) rfl rfl underlying230 om om (rfl)) rfl ?_;exact gG hh.x):A:=k ⟨h⟩
theorem Zr(h:B)(k:Y9 B->A:=by intro hh;refine zq (dq (_) rfl rfl underlying326 om om (rfl)) rfl ?_;exact gG hh.x):A:=k ⟨h⟩
theorem Zs(h:B)(k:Y9 B->A:=by intro hh;refine fU rfl ?_;exact gG hh.x):A:=k ⟨h⟩
theorem Zt(h:B)(k:Y9 B->A:=by intro hh;refine zq (bt rfl rfl underlying79) rfl ?_;exact gG hh.x):A:=k ⟨h⟩
theorem Zu(h:B)(k:Y9 B->A:=by intro hh;refine zq (zf 36 rfl rfl) rfl ?_;exact gG hh.x):A:=k ⟨h⟩
theorem Zv(h:B)(k:Y9 B->A:=by intro hh;refine iI ?_;exact gG hh.x):A:=k ⟨h⟩
theorem Zw(h:B)(k:Y9 B->A:=by intro hh;refine zq (bt rfl rfl underlying135) rfl ?_;exact gG hh.x):A:=k ⟨h⟩
theorem Zx(h:B)(k:Y9 B->A:=by intro hh;refine zq (bt rfl rfl underlying81) rfl ?_;exact gG hh.x):A:=k ⟨h⟩
theorem Zy(h:B)(k:Y9 B->A:=by intro hh;refine zq (iW rfl underlying9) rfl ?_;exact gG hh.x):A:=k ⟨h⟩
theorem Zz(h:B)(k:Y9 B->A:=by intro hh;refine zq (cm rfl 147 (lJ hk)) rfl ?_;exact gG hh.x):A:=k ⟨h⟩
theorem ZA(h:B)(k:Y9 B->A:=by intro hh;refine zW ?_;exact gA hh.x):A:=k ⟨h⟩
theorem ZB(h:B)(k:Y9 B->A:=by intro hh;refine zq (bj rfl rfl om so) rfl (zq (bC (.slice _ _ _) rfl (fV _ _ hk)) rfl ?_);exact gG hh.x):A:=k ⟨h⟩
theorem ZC(h:B)(k:Y9 B->A:=by intro hh;refine eH kr ?_;exact gG hh.x):A:=k ⟨h⟩
theorem ZD(h:B)(k:Y9 B->A:=by intro hh;refine zq (cm rfl 38 (fw hi)) rfl ?_;exact gG hh.x):A:=k ⟨h⟩
theorem ZE(h:B)(k:Y9 B->A:=by intro hh;refine zq (zf 68 rfl rfl) rfl ?_;exact gG hh.x):A:=k ⟨h⟩
theorem ZF(h:B)(k:Y9 B->A:=by intro hh;refine zq (zf 33 rfl rfl) rfl ?_;exact gG hh.x):A:=k ⟨h⟩
theorem ZG(h:B)(k:Y9 B->A:=by intro hh;refine zq (dq (_) rfl rfl underlying230 om om (rfl)) rfl ?_;exact gG hh.x):A:=k ⟨h⟩
theorem ZH(h:B)(k:Y9 B->A:=by intro hh;refine zq (cV rfl rfl underlying58 om om) rfl ?_;exact gG hh.x):A:=k ⟨h⟩
theorem ZI(h:B)(k:Y9 B->A:=by intro hh;refine zq (eR rfl rfl) rfl ?_;exact gG hh.x):A:=k ⟨h⟩
theorem ZJ(h:B)(k:Y9 B->A:=by intro hh;refine zq (j1 rfl rfl kr) rfl ?_;exact gG hh.x):A:=k ⟨h⟩
theorem ZK(h:B)(k:Y9 B->A:=by intro hh;refine zq (bj rfl rfl om (by simpa using hk)) rfl (zq (bC (.slice _ _ _) rfl (fV _ _ hk)) rfl ?_);exact gG hh.x):A:=k ⟨h⟩
theorem ZL(h:B)(k:Y9 B->A:=by intro hh;refine yE ?_;exact gA hh.x):A:=k ⟨h⟩
theorem ZM(h:B)(k:Y9 B->A:=by intro hh;refine zq (ck #[(.pointer _),(.pointer _),(.pointer _),(.pointer _)] underlying230 rfl rfl rfl) rfl ?_;exact gG hh.x):A:=k ⟨h⟩
theorem ZN(h:B)(k:Y9 B->A:=by intro hh;refine zq (dq (_) rfl rfl underlying264 om om (rfl)) rfl ?_;exact gG hh.x):A:=k ⟨h⟩
theorem ZO(h:B)(k:Y9 B->A:=by intro hh;refine zq (zf 105 rfl rfl) rfl ?_;exact gG hh.x):A:=k ⟨h⟩
theorem ZP(h:B)(k:Y9 B->A:=by intro hh;refine zq (iU (ft:=3) rfl rfl) rfl ?_;exact gG hh.x):A:=k ⟨h⟩
theorem ZQ(h:B)(k:Y9 B->A:=by intro hh;refine zq (mi rfl rfl kr) rfl ?_;exact gG hh.x):A:=k ⟨h⟩
theorem ZR(h:B)(k:Y9 B->A:=by intro hh;refine zq (bn rfl rfl om om) rfl (zq (cm rfl 147 (lJ hk)) rfl (zq (cE 147 (.slice _ _ _) rfl (rH l k 1 hk dc inferInstance)) rfl ?_));exact gG hh.x):A:=k ⟨h⟩
theorem ZS(h:B)(k:Y9 B->A:=by intro hh;refine zq (ck (bJ ax.list nE).toArray (sz:=2) underlying37 rfl rfl rfl) rfl ?_;exact gG hh.x):A:=k ⟨h⟩
theorem ZT(h:B)(k:Y9 B->A:=by intro hh;refine zq (iU (ft:=58) rfl rfl) rfl (zq (bF rfl rfl underlying3 om om) rfl ?_);exact gG hh.x):A:=k ⟨h⟩
theorem ZU(h:B)(k:Y9 B->A:=by intro hh;refine zq (bj rfl rfl om (by simpa using hk')) rfl (zq (bC (.slice _ _ _) rfl (fV _ _ hk)) rfl ?_);exact gG hh.x):A:=k ⟨h⟩
theorem ZV(h:B)(k:Y9 B->A:=by intro hh;refine zq (bt rfl rfl underlying129) rfl ?_;exact gG hh.x):A:=k ⟨h⟩
theorem ZW(h:B)(k:Y9 B->A:=by intro hh;refine zq (ck #[(.int .i64 _),(.int .i64 _),(.int .i64 _),(.int .i64 _)] underlying326 rfl rfl rfl) rfl ?_;exact gG hh.x):A:=k ⟨h⟩
theorem ZX(h:B)(k:Y9 B->A:=by intro hh;refine zq (bI (bU rfl rfl) (congrArg (Value.int .u64) (show IntKind.u64.wrap (((t.nx+k:Nat):Int)+1)=((t.nx+(k+1):Nat):Int)from wrap_u64 om om))) rfl ?_;exact gA hh.x):A:=k ⟨h⟩
theorem ZY(h:B)(k:Y9 B->A:=by intro hh;refine zq (bt rfl rfl underlying82) rfl ?_;exact gG hh.x):A:=k ⟨h⟩
theorem ZZ(h:B)(k:Y9 B->A:=by intro hh;refine zq (bI (qG rfl rfl dc) (congrArg (Value.int .i64) ((EX (mk/2^k) 2 om).trans (congrArg (fun n:Nat=>(n:Int)) (show mk/2^k/2=mk/2^(k+1)from by rw[YG,←X3]))))) rfl ?_;exact gA hh.x):A:=k ⟨h⟩
theorem Z0(h:B)(k:Y9 B->A:=by intro hh;refine zq (nN rfl rfl underlying47) rfl ?_;exact gG hh.x):A:=k ⟨h⟩
theorem Z1(h:B)(k:Y9 B->A:=by intro hh;refine zq (dq (_) rfl rfl underlying374 om om (rfl)) rfl ?_;exact gG hh.x):A:=k ⟨h⟩
theorem Z2(h:B)(k:Y9 B->A:=by intro hh;refine zq (bn rfl rfl om om) rfl (zq (cm rfl 38 (fw hi)) rfl (zq (cE 38 (.int .i64 _) rfl (fA vs i 0 hi dc inferInstance)) rfl ?_));exact gG hh.x):A:=k ⟨h⟩
theorem Z3(h:B)(k:Y9 B->A:=by intro hh;refine zq (cE 38 (.int .i64 _) rfl (fA vs i 3 hi dc inferInstance)) rfl ?_;exact gG hh.x):A:=k ⟨h⟩
theorem Z4(h:B)(k:Y9 B->A:=by intro hh;refine zq (bI (mc rfl rfl dc) (congrArg (Value.int .u8) (mD l[k+i].toNat 128))) rfl (zq (cV rfl rfl underlying58 om om) rfl ?_);exact gG hh.x):A:=k ⟨h⟩
theorem Z5(h:B)(k:Y9 B->A:=by intro hh;refine zq (bI (mc rfl rfl dc) (congrArg (Value.int .i64) (vl _ 64))) rfl ?_;exact gG hh.x):A:=k ⟨h⟩
theorem Z6(h:B)(k:Y9 B->A:=by intro hh;refine zd hns0 rfl (zf 0 rfl rfl) rfl (zd hns0 rfl (zl rfl) rfl (zd hns0 rfl (iq rfl rfl) rfl ?_));exact gA hh.x):A:=k ⟨h⟩
theorem Z7(h:B)(k:Y9 B->A:=by intro hh;refine bB hns0 rfl rfl rfl h12 (zf 0 rfl rfl) rfl ?_;exact gA hh.x):A:=k ⟨h⟩
theorem Z8(h:B)(k:Y9 B->A:=by intro hh;refine bB hns0 rfl rfl rfl h17 (zL rfl underlying48) rfl ?_;exact gA hh.x):A:=k ⟨h⟩
theorem Z9(h:B)(k:Y9 B->A:=by intro hh;refine bB hns1 rfl rfl rfl h41 (zf 1 rfl rfl) rfl ?_;exact gA hh.x):A:=k ⟨h⟩
theorem aaa(h:B)(k:Y9 B->A:=by intro hh;refine bB hns1 rfl rfl rfl h41 (j1 rfl rfl kr) rfl ?_;exact gA hh.x):A:=k ⟨h⟩
theorem aab(h:B)(k:Y9 B->A:=by intro hh;refine zq (ke (v:= .string qj) rfl rfl FE) rfl ?_;exact gG hh.x):A:=k ⟨h⟩
theorem aac(h:B)(k:Y9 B->A:=by intro hh;refine cu (aF b3 (.cells #[.slice b.a b.l.length b.c] 47 (0,0))::aF b7 (.cells #[.int .i64 ((at_:Nat):Int)] 3 (0,0))::aF b2 (.cells #[.pointer (some ⟨lp,0,none⟩)] 82 (0,0))::aF b6 (.cells #[.slice oa (out).length oc] 48 (0,0))::row (.slice oa (out).length oc) 47 1 ((out).map BS.val)::ep fo out::bm lp p pre (⟨t.ga,t.gc,t.av,t.gi,nx,bg⟩:LS)::H) ?_;exact gG hh.x):A:=k ⟨h⟩
theorem aad(h:B)(k:Y9 B->A:=by intro hh;refine zq (bn rfl rfl om om) rfl (zq (cm rfl 38 (fw hi)) rfl (zq (cE 38 (.slice _ _ _) rfl (fA vs i 37 hi dc inferInstance)) rfl ?_));exact gG hh.x):A:=k ⟨h⟩
theorem aae(h:B)(k:Y9 B->A:=by intro hh;refine zq (dq (.pointer _) rfl rfl underlying197 om om (rfl)) rfl ?_;exact gG hh.x):A:=k ⟨h⟩
theorem aaf(h:B)(k:Y9 B->A:=by intro hh;refine zq (dq (.pointer _) rfl rfl underlying201 om om (rfl)) rfl ?_;exact gG hh.x):A:=k ⟨h⟩
end
end Go.Sx
