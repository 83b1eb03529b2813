/- Steps of the proof of a law. -/
import Derived.Test.YtmbfimckmfnnjaaGreatDoorQ05
import Derived.Defers
import Derived.Recover
import Derived.Lib.AppendZerosOnto
set_option maxRecDepth 100000
set_option maxHeartbeats 1000000
set_option linter.unusedSimpArgs false
set_option linter.unusedVariables false
section
namespace Go.Sx
open Go.RowKit
section
variable {P:Program} {w0:World} {σ:Env} {H:List SA} {d:Option Nat} {ty:TypeId} {pos:String} {aft:Array Edge} {g:Option (Nat×Bool)}
theorem xV{x i:Operand}{t e n m:Nat}{cs sub:Array Value}{k:IntKind}{j:Nat}(hx:ev σ x= .agg cs)(hi:ev σ i= .int k (j:Int))(hu:P.underlying t=some (.array n e))[h1:oI P e m](hn:j<n)[hc:dh cs (j*m) m sub]:Qt P w0 H σ ⟨d,.index t x i,ty,pos,aft,g⟩ (.agg sub):=fun w _=>by
 obtain⟨dd,ii,hd1,hd2,hi',hs⟩:=h1.spec;simp only[execOp,hx,hi,Instr.index,asIntOf,Sem.run_bind,Sem.run_pure,Result.andThen_ok,run_underlying hu,Int.natCast_nonneg,Int.ofNat_lt,hn,and_self,if_true,cC hi',hs,XA,rV]
end
def bJ{α:Type}{n:Nat}(f:α->List Value)(v:Vector α n):List Value:=v.toList.flatMap f
theorem dO{α:Type}{n:Nat}(f:α->List Value)(m:Nat)(hf:∀x,(f x).length=m)(v:Vector α n):(bJ f v).length=n*m:=by
 rw[bJ,fy f m hf,XW]
theorem mQ{α:Type}{n:Nat}(f:α->List Value)(hf:∀x,(f x).all Value.oneCell'=true)(v:Vector α n):(bJ f v).all Value.oneCell'=true:=by
 rw[Yc];intro x hx;obtain⟨y,_,hy⟩:=Y7.1 hx;exact Yc.1 (hf y) x hy
theorem pC{α:Type}{n:Nat}(f:α->List Value)(m:Nat)(hf:∀x,(f x).length=m)(v:Vector α n)(i:Nat)(hi:i<n):((bJ f v).drop (i*m)).take m=f v[i]:=by
 have:=de f m hf v.toList i acq;simpa[bJ]using this
theorem chunks{α:Type}(f:α->List Value)(m:Nat):∀(ls:List α)(cs:List Value),cs.length=ls.length*m->(∀i (hi:i<ls.length),(cs.drop (i*m)).take m=f ls[i])->cs=ls.flatMap f
 |[],cs,hl,_=>by simpa using hl
 |y::ls,cs,hl,h=>by
   have h0:=h 0 sm;simp only[Nat.zero_mul,XI,List.getElem_cons_zero]at h0;have ih:=chunks f m ls (cs.drop m) (by rw[Xe,hl,Xq,XY];omega) (fun i hi=>by
     have:=h (i+1) so;rw[X2,Nat.add_comm m,←Nat.succ_mul];simpa using this)
   rw[Xw,←h0,←ih,XC]
theorem yB{P:Program}{t e n m:Nat}{α:Type}{enc:α->List Value}{Rd:World->α->Prop}(O:Ca P e α enc Rd)(ht:P.underlying t=some (.array n e))(hc:P.cellsOf e=m)(hn:P.cellsOf t=n*m):Ca P t (Vector α n) (bJ enc) (fun w v=>∀y∈v.toList,Rd w y):=
 ⟨fun en w sp fuel cs x h=>by
   obtain⟨xs,k,_,_,hl,hlen,hi⟩:=DataW.trod_array ht h;rw[hn]at hl;have hex:∀i,i<n->∃y,(cs.drop (i*m)).take m=enc y/\Rd w y:=fun i hlt=>by
     have h1:=hi i hlt;rw[hc,WW om]at h1;obtain⟨y,hy,hr⟩:=O.ok en w sp k _ _ h1;exact⟨y,hy,hr⟩
   obtain⟨ls,hls,hp⟩:=mZ n hex;refine⟨⟨ls.toArray,by simp[hls]⟩,?_,?_⟩
   · show cs=ls.flatMap enc
     exact chunks enc m ls cs (by rw[hls];exact hl) (fun i hi=>(hp i hi).1)
   · intro y hy
     obtain⟨i,hi,rfl⟩:=XU (show y∈ls by simpa using hy);exact(hp i hi).2⟩
end Go.Sx
end
section
namespace Go.Sx
open Go.RowKit
def I4(P:Program)(K:Value->World->Prop)(Kp:List PanicEntry->World->Prop):Result Next->Prop
 | .ok (.value v) w'=>K v w'
 | .ok .skip w'=>K undef w'
 | .ok (.enter f args) w'=>Calls P f args w' fun e w''=>match e with
   | .returned v=>K v w''
   | .panicked c=>Kp c w''
   | .outgrown=>False
 | .halt (.panic v) w'=>Kp [{v,recovered:=false}] w'
 |_=>False
def Qs(P:Program)(w0:World)(H:List SA)(σ:Env)(o:Oper)(K:Value->List SA->Prop)(Kp:List PanicEntry->List SA->Prop):Prop:=
 ∀w,St w0 H w->I4 P (fun v w'=>∃H',K v H'/\St w0 H' w') (fun c w'=>∃H',Kp c H'/\St w0 H' w') ((execOp (ev σ) o).run P w)
section
variable {P:Program} {n:Fr} {w0:World} {σ:Env} {H:List SA} {Q:iM}
theorem Qs.wp{o:Oper}{K:Value->List SA->Prop}{Kp:List PanicEntry->List SA->Prop}(h:Qs P w0 H σ o K Kp){a:Act}{w:World}(ha:qA n a σ)(hw:St w0 H w){N:Act->World->Prop}{Q':Exit->Act->World->Prop}
   (hK:∀v H' w',K v H'->St w0 H' w'->N (a.put o.dst v) w')(hp:∀c H' w',Kp c H'->St w0 H' w'->Q' (.panic c) a w'):o.wp P a w N Q':=by
 have h1:=h w hw;unfold Oper.wp;rw[ha.eval];generalize (execOp (ev σ) o).run P w=r at h1;cases r with
 |halt x w'=>
   cases x<;>simp only[I4]at h1
   case panic v=>obtain⟨H',hk,hs⟩:=h1;exact hp _ _ _ hk hs
 |ok nx w'=>
   cases nx<;>simp only[I4,reduceCtorEq]at h1<;>simp only[Oper.upon]
   case value v=>obtain⟨H',hk,hs⟩:=h1;exact hK _ _ _ hk hs
   case skip=>obtain⟨H',hk,hs⟩:=h1;exact hK _ _ _ hk hs
   case enter f args=>
     refine h1.mono fun e w'' he=>?_;cases e with
     |returned v=>obtain⟨H',hk,hs⟩:=he;exact hK _ _ _ hk hs
     |panicked c=>obtain⟨H',hk,hs⟩:=he;exact hp _ _ _ hk hs
     |outgrown=>exact he.elim
section
variable {all:Array Oper} {rest:List Oper} {d:Nat} {op:Op} {ty:TypeId} {pos:String} {aft:Array Edge}
end
end
end Go.Sx
end
section
namespace Go.Sx
open Go.RowKit
section
variable {P:Program} {n:Fr} {w0:World} {σ:Env} {H:List SA} {Q:iM} {d:Option Nat} {ty:TypeId} {pos:String} {aft:Array Edge} {g:Option (Nat×Bool)} {K:Value->List SA->Prop}
theorem sB{x:Operand}{t e:TypeId}{a:Option Addr}{n c:Nat}(hx:ev σ x= .slice a n c)(ht:P.underlying t=some (.slice e)):Qt P w0 H σ ⟨d,.call ⟨.builtin .cap,#[x],#[t]⟩,ty,pos,aft,g⟩ (.int .i64 c):=fun w _=>by
 simp[execOp,resolve,invoke,builtin,Builtin.cap_,hx,run_underlying ht,goInt]
theorem xw{s x:Operand}{t tn e sz bytes m:Nat}{kq kn:IntKind}(hs:ev σ s= .slice none 0 0)(hx:ev σ x= .int kq (m:Int))[ht:jg P t e sz bytes](htn:P.underlying tn=some (.int kn))(h0:0<m)(hm:m<=4294967296)(hby:Nat.ble bytes 32768=true)
   (h:∀a c,K (.slice a m c) (row (.slice a 0 c) e sz []::H)):Ef P w0 H σ ⟨d,.call ⟨.builtin .append,#[s,x],#[t,tn]⟩,ty,pos,aft,g⟩ K:=fun w hw=>by
 obtain⟨i,z,hi,hz,hsz,hby',hzs⟩:=ht.spec;have hby2:=XL hby;have hpos:=ht.pos;subst hsz;subst hby';have hmb:m*i.bytes<=140737488355328:=Yk (Yz hm hby2) dc;have hnx:Builtin.nextslicecap (0+m) 0=m:=by simp[Builtin.nextslicecap,h0]
 have hrun:=Go.Lib.run_append_grow_zeros (P:=P) w t tn ty e i z kq kn ht.ht htn hi hz none 0 0 [] (by simp[Builtin.firstCells]) m h0 hpos om so om (by rw[hnx];omega);have:(execOp (ev σ) ⟨d,.call ⟨.builtin .append,#[s,x],#[t,tn]⟩,ty,pos,aft,g⟩).run P w= .ok (.value (.slice (some ⟨w.heap.size,0,none⟩) m (grownCap w m 0 e))) (w.drew.alloc (.cells (Builtin.zeroCells z.cells m++Builtin.zeroCells z.cells (grownCap w m 0 e-m)) e)):=by
   have hrun':(Builtin.append_ #[t,tn] ty #[.slice none 0 0,.int kq (m:Int)]).run P w=_:=hrun;simp only[execOp,resolve,invoke,builtin,hs,hx,Y6,Xt,X6,Sem.run_bind,Sem.run_pure,Result.andThen_ok,hrun',XQ,Array.append_assoc];simp
 rw[this];refine⟨_,h _ _,?_⟩;have hge:=grownCap_ge w m 0 e;have hcm:grownCap w m 0 e<=maxLen:=grownCap_le_maxLen w m 0 e agI;have hc0:grownCap w m 0 e≠0:=om;refine St.fresh hw rfl rfl rfl sm (fun k hk=>heap_alloc_old w.drew _ hk) ?_ ?_ ?_
 · refine⟨_,_,_,rfl,sm,Xv _,hcm,sm,fun _=>⟨_,_,rfl,heap_alloc_new w.drew _,?_,sm⟩⟩
   simp only[Y1,size_zeroCells,hzs,←XY]
   congr 1
   omega
 · simp[row,bQ,hc0]
 · simp[row,bQ,hc0]
end
section
variable {P:Program} {n:Fr} {w0:World} {σ:Env} {H:List SA} {R:Exit->Act->World->Prop}
end
section
variable {P:Program} {n:Fr} {w0:World} {σ:Env} {H:List SA} {Q:Exit->Act->List Frame->World->Prop}
end
section
variable {P:Program} {m:Nat} {w0:World} {σ:Env} {H H1:List SA} {fn:Func} {α:Type} {val:α->Value} {H':α->List SA}
end
end Go.Sx
end
section
namespace Go.Sx
open Go.RowKit
section
variable {P:Program} {n:Fr} {w0:World} {σ:Env} {H:List SA} {d:Option Nat} {ty:TypeId} {pos:String} {aft:Array Edge} {g:Option (Nat×Bool)}
theorem nK{x i:Operand}{t:TypeId}{s:ByteArray}{k:IntKind}{j:Nat}(b:UInt8)(hx:ev σ x= .string s)(hi:ev σ i= .int k (j:Int))(ht:P.underlying t=some .string)(hb:s[j]? =some b):Qt P w0 H σ ⟨d,.index t x i,ty,pos,aft,g⟩ (.int .u8 (b.toNat:Int)):=fun w _=>by
 simp[execOp,hx,hi,Instr.index,asIntOf,run_underlying ht,hb]
theorem Ex{x y:Operand}{t t':TypeId}{k k':IntKind}{a b:Int}(hx:ev σ x= .int k a)(hy:ev σ y= .int k' b):Qt P w0 H σ ⟨d,.call ⟨.builtin .max,#[x,y],#[t,t']⟩,ty,pos,aft,g⟩ (.int k (if b>a then b else a)):=fun w _=>by
 simp[execOp,resolve,invoke,builtin,Builtin.max_,Builtin.max2,hx,hy]
theorem DK{x y:Operand}{t t':TypeId}{k k':IntKind}{a b:Int}(hx:ev σ x= .int k a)(hy:ev σ y= .int k' b):Qt P w0 H σ ⟨d,.call ⟨.builtin .min,#[x,y],#[t,t']⟩,ty,pos,aft,g⟩ (.int k (if b<a then b else a)):=fun w _=>by
 simp[execOp,resolve,invoke,builtin,Builtin.min_,Builtin.min2,hx,hy]
end
section
variable {P:Program} {n:Fr} {w0:World} {σ:Env} {H:List SA} {Q:iM} {S:List SA} {ops:Array Oper} {fuel i j d:Nat} {listed:Array Bool} {op:Op} {ty:TypeId} {pos:String} {aft:Array Edge}
def II(P:Program)(n:Fr)(w0:World)(S:List SA)(ops:Array Oper)(fuel:Nat)(listed:Array Bool)(σ:Env)(H:List SA)(Q:iM):Prop:=
 ∀a w,qA n a σ->St w0 H w->St w0 S w->wpAnyH P .any ops (lift n Q) (St w0 S) fuel listed a w
def Kx(P:Program)(n:Fr)(w0:World)(S:List SA)(ops:Array Oper)(fuel:Nat)(listed:Array Bool)(i:Nat)(σ:Env)(H:List SA)(Q:iM):Prop:=
 ∀a w,qA n a σ->St w0 H w->St w0 S w->wpOp P ops (lift n Q) i (fun a' w'=>St w0 S w'/\wpAnyH P .any ops (lift n Q) (St w0 S) fuel (listed.setIfInBounds i true) a' w') a w
theorem jC{id:Nat}{l:List Oper}(S:List SA)(hm:P.follows .mixedOrders=true)(hS:∀w,St w0 H w->St w0 S w)(h:II P n w0 S l.toArray l.length (Array.replicate l.length false) σ H Q):T P n w0 (.region id l.toArray true) σ H Q:=fun a w ha hw=>by
 have hw':=hw.drew;refine wp_region_held (S:=St w0 S) hm ?_;have:=h a _ ha hw' (hS _ hw');simpa using this
theorem eH(hr:(Region.ready .any ops listed).isEmpty=true)(h:X w0 .normal Q σ H):II P n w0 S ops fuel listed σ H Q:=fun a w ha hw _=>
 wpAnyH_done (by simpa using hr) ⟨σ,ha,h w hw⟩ _
theorem gH{p:Prop}(h:p->II P n w0 S ops fuel listed σ H Q):II P n w0 S ops fuel listed σ (pu p::H) Q:=fun a w ha hw hS=>h hw.pure a w ha hw.tail hS
theorem cd(hr:(Region.ready .any ops listed==[i])=true)(h:Kx P n w0 S ops fuel listed i σ H Q):II P n w0 S ops (fuel+1) listed σ H Q:=fun a w ha hw hS=>
 wpAnyH_all (eq_of_beq hr) sm fun k hk=>by
   obtain rfl:k=i:=abf;exact h a w ha hw hS
theorem nn(hr:(Region.ready .any ops listed==[i,j])=true)(h:Kx P n w0 S ops fuel listed i σ H Q)(h':Kx P n w0 S ops fuel listed j σ H Q):II P n w0 S ops (fuel+1) listed σ H Q:=fun a w ha hw hS=>
 wpAnyH_all (eq_of_beq hr) sm fun k hk=>by
   rcases Xg.1 hk with rfl|hk
   · exact h a w ha hw hS
   · obtain rfl:k=j:=by simpa using hk
     exact h' a w ha hw hS
theorem cq(hi:ops[i]? =some ⟨some d,op,ty,pos,aft,none⟩)(hd:Nat.blt d n.n=true)
   (h:Ef P w0 H σ ⟨some d,op,ty,pos,aft,none⟩ (fun v H'=>(∀w,St w0 H' w->St w0 S w)/\II P n w0 S ops fuel (listed.setIfInBounds i true) (mn σ d v) H' Q)):Kx P n w0 S ops fuel listed i σ H Q:=fun a w ha hw hS=>by
 unfold wpOp;simp only[hi,Region.wanted,if_true];exact .inl (h.wp ha hw (fun v H' w' ⟨h1,h2⟩ hs=>⟨h1 _ hs,h2 _ _ (ha.put hd) hs (h1 _ hs)⟩))
theorem gg(hi:ops[i]? =some ⟨none,op,ty,pos,aft,none⟩)
   (h:Ef P w0 H σ ⟨none,op,ty,pos,aft,none⟩ (fun _ H'=>(∀w,St w0 H' w->St w0 S w)/\II P n w0 S ops fuel (listed.setIfInBounds i true) σ H' Q)):Kx P n w0 S ops fuel listed i σ H Q:=fun a w ha hw hS=>by
 unfold wpOp;simp only[hi,Region.wanted,if_true];exact .inl (h.wp ha hw (fun v H' w' ⟨h1,h2⟩ hs=>⟨h1 _ hs,h2 _ _ ha hs (h1 _ hs)⟩))
theorem bz{v:Value}(hns:Region.noSelect ops=true)(hi:ops[i]? =some ⟨some d,op,ty,pos,aft,none⟩)(hf:Region.free .any ops listed i=true)(hr:(Region.ready .any ops listed).contains i=true)
   (hq:Qt P w0 S σ ⟨some d,op,ty,pos,aft,none⟩ v)(hd:Nat.blt d n.n=true)(h:II P n w0 S ops fuel (listed.setIfInBounds i true) (mn σ d v) H Q):II P n w0 S ops (fuel+1) listed σ H Q:=fun a w ha hw hS=>by
 refine wpAnyH_take hi hns hf hr ?_ (.inl ⟨rfl,fun w hw=>by rw[ha.eval];exact hq w hw⟩) hS (h _ _ (ha.put hd) hw hS);intro c a' w' hq;refine⟨?_,hq.2⟩;have:=hq.1;simpa only[Act.put]using this
end
end Go.Sx
end
namespace Go.Proofs.YtmbfimckmfnnjaaGreatDoor
open Go.RowKit Go.Sx Go.Proofs.Tryz
def Mq:ByteArray:=ByteArray.mk (List.toArray (List.append (List.append [0,1,1,2,1,2,2,3,1,2,2,3,2,3,3,4,1,2,2,3,2,3,3,4,2,3,3,4,3,4,4,5,1,2,2,3,2,3,3,4,2,3,3,4,3,4,4,5,2,3,3,4,3,4,4,5,3,4,4,5,4,5,5,6] [1,2,2,3,2,3,3,4,2,3,3,4,3,4,4,5,2,3,3,4,3,4,4,5,3,4,4,5,4,5,5,6,2,3,3,4,3,4,4,5,3,4,4,5,4,5,5,6,3,4,4,5,4,5,5,6,4,5,5,6,5,6,6,7]) (List.append [1,2,2,3,2,3,3,4,2,3,3,4,3,4,4,5,2,3,3,4,3,4,4,5,3,4,4,5,4,5,5,6,2,3,3,4,3,4,4,5,3,4,4,5,4,5,5,6,3,4,4,5,4,5,5,6,4,5,5,6,5,6,6,7] [2,3,3,4,3,4,4,5,3,4,4,5,4,5,5,6,3,4,4,5,4,5,5,6,4,5,5,6,5,6,6,7,3,4,4,5,4,5,5,6,4,5,5,6,5,6,6,7,4,5,5,6,5,6,6,7,5,6,6,7,6,7,7,8])))
def qL(i:Nat):Nat:=(Mq.data.getD i 0).toNat
theorem Bw:∀i<256,Mq[i]? =some (UInt8.ofNat (qL i)):=adv
theorem sh:∀i<256,qL i<=8:=adv
def pB(n:Nat):Nat:=qL (n/2^8)+qL (n%256)
variable {w0:World} {H:List SA}
theorem N1{n:Nat}(h:n<65536):pB n<=16:=by
 have h1:=sh (n/2^8) om;have h2:=sh (n%256) om;unfold pB;omega
theorem Oo{i:Nat}(h:i<256):((UInt8.ofNat (qL i)).toNat:Int)=(qL i:Int):=by
 have:=sh i h;simp;omega
theorem M9(c:Nat):c&&& 255=c%256:=Nat.and_two_pow_sub_one_eq_mod c 8
def dC(num:Int)(mk:Nat):Bool:=decide (0<=num/\num<=60/\4<=pB mk/\pB mk<=7)
attribute [local irreducible] qL
theorem NH{n:Nat}(hn:n<65536):CT prog w0 (H) 106 [.int .u16 (n:Int)] (α:=Unit) (fun _=> .int .i64 (pB n:Int)) (fun _=>H):=by
 refine al func106 rfl ntmps106 rfl (gG ?_);refine dv [(0,true),(1,true),(2,true),(3,true),(4,true),(5,true),(6,true),(7,true),(8,true)] (fun hns0=>?_);refine zd hns0 rfl (zm (.int .u16 _) rfl) rfl (zd hns0 rfl (pN 8 rfl er dc) rfl (zd hns0 rfl (nK (UInt8.ofNat (qL (n/2^8))) (s:=Mq) rfl rfl underlying9 (Bw _ om)) rfl ?_));rw[Oo (show n/2^8<256 by omega)];have hp1:=sh (n/2^8) om;refine zd hns0 rfl (zm (.int .u16 _) rfl) rfl (zd hns0 rfl (oh (b:=255) rfl rfl rfl afN dc) rfl ?_);rw[M9];refine zd hns0 rfl (nK (UInt8.ofNat (qL (n%256))) (s:=Mq) rfl rfl underlying9 (Bw _ om)) rfl ?_;rw[Oo (show n%256<256 by omega)];have hp2:=sh (n%256) om;refine zd hns0 rfl (bU rfl rfl) rfl ?_;rw[show IntKind.u8.wrap ((qL (n/2^8):Int)+(qL (n%256):Int))=((qL (n/2^8)+qL (n%256):Nat):Int)from by rw[←Int.natCast_add];exact kM .u8 rfl (by show _<2^8;omega)];refine zd hns0 rfl (bF rfl rfl underlying3 om om) rfl ?_;refine gA ?_;exact zX () [_] results106 ⟨rfl,trivial⟩ rfl SB
theorem Mw{num:Int}{mk:Nat}(hmk:mk<65536):CT prog w0 (H) 53 [.agg (aH.mk num (mk:Int)).cells] (α:=Unit) (fun _=> .int .i64 (pB mk:Int)) (fun _=>H):=by
 refine al func53 rfl ntmps53 rfl (gG ?_);refine ze rfl (aZ rfl (fun b1=>gG ?_));refine ze rfl (zc (NH hmk) rfl (fun x5=>gG ?_));exact zX () [_] results53 ⟨rfl,trivial⟩ (rfl) SB
theorem pZ{num:Int}{mk:Nat}(hmk:mk<65536):CT prog w0 (H) 20 [.agg (aH.mk num (mk:Int)).cells] (α:=Unit) (fun _=> .bool (dC num mk)) (fun _=>H):=by
 refine al func20 rfl ntmps20 rfl (gG ?_);refine ze rfl (aZ rfl (fun b1=>gG ?_));refine ze rfl (zc (Mw hmk) rfl (fun x5=>gG ?_));refine yS 9 ?_ ?_<;>intro h9 p9<;>refine gG ?_
 ·refine yS 14 ?_ ?_<;>intro h14 p14<;>refine gG ?_
  ·refine yS 18 ?_ ?_<;>intro h18 p18<;>refine gG ?_
   ·refine acN ?_;refine aaz ?_;rw[W5];simp only[dC,decide_eq_true_eq,Xm,false_iff];omega
   refine acN ?_;refine aaz ?_;rw[W5];simp only[dC,decide_eq_true_eq,Xm,false_iff];omega
  refine acN ?_;refine aaz ?_;rw[W5];simp only[dC,decide_eq_true_eq,Xm,false_iff];omega
 refine acN ?_;refine aaz ?_;rw[W5];simp only[dC,decide_eq_true_eq,Xm,false_iff];omega
end Go.Proofs.YtmbfimckmfnnjaaGreatDoor
