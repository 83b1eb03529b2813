/- Steps of the proof of a law. -/
import Derived.Test.YtmbfimckmfnnjaaGreatDoorQ00
import Derived.Laws.StructEq
import Derived.ChangeKeysEq
set_option maxRecDepth 100000
set_option maxHeartbeats 1000000
set_option linter.unusedSimpArgs false
set_option linter.unusedVariables false
section
namespace Go.Sx
open Go.RowKit
def IW:TypeDesc->Bool
 | .struct _| .array _ _=>true
 |_=>false
def Lw(P:Program)(t:TypeId):Bool:=match P.underlying t,P.info? t with
 |some d,some i=> !IW d&&i.size==1
 |_,_=>false
def Ol(P:Program)(t:TypeId)(n:Nat):Bool:=match P.underlying t,P.info? t with
 |some d,some i=>IW d&&i.size==n
 |_,_=>false
def DF(P:Program)(s:TypeId)(f off:Nat):Bool:=match P.underlying s with
 |some (.struct fs)=>match fs[f]? with
   |some fd=>fd.offset==off&&(match P.info? fd.type with|some i=>i.size != 0|none=>false)
   |none=>false
 |_=>false
class nT(P:Program)(t:TypeId):Prop where ok:Lw P t=true
class oI(P:Program)(t:TypeId)(n:outParam Nat):Prop where ok:Ol P t n=true
class lT(P:Program)(t:TypeId)(z:outParam Value):Prop where ok:(P.info? t).bind (·.zero)=some z
class gv(P:Program)(s:TypeId)(f:Nat)(off:outParam Nat):Prop where ok:DF P s f off=true
class bk(P:Program)(f:FuncId):Prop where ok:(match P.funcs[f]? with|some fn=> !(fn.name== "runtime.NumGoroutine")&&fn.body.isSome|none=>false)=true
theorem nT.spec{P:Program}{t:TypeId}(h:nT P t):∃d i,P.underlying t=some d/\IW d=false/\P.info? t=some i/\i.size=1:=by
 have:=h.ok;unfold Lw at this
 split at this
 · rename_i d i h1 h2
   simp only[Xz,YO,beq_iff_eq]at this;exact⟨d,i,h1,this.1,h2,this.2⟩
 · cases this
theorem oI.spec{P:Program}{t:TypeId}{n:Nat}(h:oI P t n):∃d i,P.underlying t=some d/\IW d=true/\P.info? t=some i/\i.size=n:=by
 have:=h.ok;unfold Ol at this
 split at this
 · rename_i d i h1 h2
   simp only[Xz,beq_iff_eq]at this;exact⟨d,i,h1,this.1,h2,this.2⟩
 · cases this
section
variable {P:Program} {t:TypeId}
theorem jv{d:TypeDesc}(h:P.underlying t=some d)(w:World):(isAgg t).run P w= .ok (IW d) w:=by
 unfold isAgg;simp only[Sem.run_bind,run_underlying h,Result.andThen_ok];cases d<;>rfl
theorem cC{i:TypeInfo}(h:P.info? t=some i)(w:World):(sizeOf t).run P w= .ok i.size w:=by
 simp[sizeOf,typeInfo,h]
theorem fK{z:Value}(h:(P.info? t).bind (·.zero)=some z)(w:World):(zeroValue t).run P w= .ok z w:=by
 cases hi:P.info? t with
 |none=>simp[hi]at h
 |some i=>simp[hi]at h;simp[zeroValue,typeInfo,hi,h]
end
class Mem(w0:World)(H:List SA)(b:Nat)(o:outParam Obj):Prop where get:∀w,St w0 H w->w.heap[b]? =some o
instance Mem.tail{w0:World}{H:List SA}{x:SA}{b:Nat}{o:Obj}[h:Mem w0 H b o]:Mem w0 (x::H) b o:=⟨fun w hw=>h.get w hw.tail⟩
instance Mem.head{w0:World}{H:List SA}{b:Nat}{o:Obj}:Mem w0 (aF b o::H) b o:=⟨fun w hw=>hw.holds (aF b o) sm⟩
theorem Mem.base{w0:World}{H:List SA}{b:Nat}{o:Obj}(h:w0.heap[b]? =some o):Mem w0 H b o:=
 ⟨fun w hw=>(hw.below.block b (Xk.1 h).1).trans h⟩
class qC(b:Nat)(H:List SA)(o:outParam Obj)(Hr:outParam (List SA)):Prop where sub:hE (aF b o::Hr) H
theorem hE.refl(H:List SA):hE H H:=⟨H,List.Perm.refl _,Y0 _⟩
theorem hE.nil(H:List SA):hE [] H:=⟨[],List.Perm.refl _,List.nil_sublist _⟩
theorem hE.Fw{x y:SA}{H Hr:List SA}(h:hE (x::Hr) H):hE (x::y::Hr) (y::H):=by
 obtain⟨l,hp,hs⟩:=h;exact⟨y::l,((hp.cons y).trans (List.Perm.swap x y Hr)),hs.cons_cons y⟩
theorem hE.cons{x:SA}{H Hr H':List SA}(h:hE (x::Hr) H)(h':hE H' Hr):hE (x::H') H:=by
 obtain⟨l,hp,hs⟩:=h;obtain⟨l',hp',hs'⟩:=h';have h1:List.Sublist (x::l') (x::Hr):=hs'.cons_cons x;obtain⟨m,hm1,hm2⟩:∃m,List.Perm m (x::l')/\List.Sublist m l:=by
   have:=List.exists_perm_sublist h1 hp.symm;exact aeq
 exact⟨m,hm1.trans (hp'.cons x),hm2.trans hs⟩
theorem hE.skip{x:SA}{H H':List SA}(h:hE H' H):hE H' (x::H):=by
 obtain⟨l,hp,hs⟩:=h;exact⟨l,hp,hs.cons x⟩
theorem hE.trans{A B C:List SA}(h:hE A B)(h':hE B C):hE A C:=by
 obtain⟨l,hp,hs⟩:=h;obtain⟨l',hp',hs'⟩:=h';obtain⟨m,h2,h3⟩:=List.exists_perm_sublist hs hp'.symm;exact⟨m,h2.trans hp,h3.trans hs'⟩
instance qC.tail{b:Nat}{H Hr:List SA}{x:SA}{o:Obj}[h:qC b H o Hr]:qC b (x::H) o (x::Hr):=⟨h.sub.Fw⟩
instance qC.head{b:Nat}{H:List SA}{o:Obj}:qC b (aF b o::H) o H:=⟨.refl _⟩
class o6(x:SA)(H:List SA)(Hr:outParam (List SA)):Prop where sub:hE (x::Hr) H
instance o6.tail{x y:SA}{H Hr:List SA}[h:o6 x H Hr]:o6 x (y::H) (y::Hr):=⟨h.sub.Fw⟩
instance o6.head{x:SA}{H:List SA}:o6 x (x::H) H:=⟨.refl _⟩
class cJ(H' H:List SA):Prop where sub:hE H' H
instance cJ.nil{H:List SA}:cJ [] H:=⟨.nil H⟩
instance cJ.cons{x:SA}{H Hr H':List SA}[h:o6 x H Hr][h':cJ H' Hr]:cJ (x::H') H:=⟨h.sub.cons h'.sub⟩
instance cJ.skip{x:SA}{H H':List SA}[h:cJ H' H]:cJ H' (x::H):=⟨h.sub.skip⟩
instance (priority:=high) cJ.rfl{H:List SA}:cJ H H:=⟨.refl H⟩
theorem cJ.st{w0:World}{H H':List SA}(h:cJ H' H):∀w,St w0 H w->St w0 H' w:=fun _ hw=>hw.sub h.sub
class aw(cs:Array Value)(i:Nat)(v:outParam Value):Prop where ok:cs[i]? =some v
class dh(cs:Array Value)(off n:Nat)(sub:outParam (Array Value)):Prop where ok:cs.extract off (off+n)=sub
def putCells(cs:Array Value)(off:Nat)(v:Value):Array Value:=v.cells.zipIdx.foldl (fun cs (c,j)=>cs.setIfInBounds (off+j) c) cs
class bD(cs:Array Value)(off:Nat)(v:Value)(cs':outParam (Array Value)):Prop where
 ok:putCells cs off v=cs'
 room:off+v.cells.size<=cs.size
class Ai(l:List Value)(i:Nat)(v:outParam Value):Prop where ok:l[i]? =some v
instance {x:Value}{l:List Value}:Ai (x::l) 0 x:=⟨rfl⟩
instance {x v:Value}{l:List Value}{i:Nat}[h:Ai l i v]:Ai (x::l) (i+1) v:=⟨by simpa using h.ok⟩
instance (priority:=low){l:List Value}{i:Nat}{v:Value}[h:Ai l i v]:aw l.toArray i v:=⟨by simpa using h.ok⟩
class Fq(l:List Value)(i:Nat)(v:Value)(l':outParam (List Value)):Prop where
 ok:l.set i v=l'
 lt:i<l.length
instance {x v:Value}{l:List Value}:Fq (x::l) 0 v (v::l):=⟨rfl,sm⟩
theorem cells_one{v:Value}(h:v.oneCell'=true):v.cells= #[v]:=by cases v<;>simp_all [Value.cells,Value.oneCell']
theorem nS{cs:Array Value}{off:Nat}{v:Value}(h:v.oneCell'=true):putCells cs off v=cs.setIfInBounds off v:=by
 simp[putCells,cells_one h]
class One(v:Value):Prop where ok:v.oneCell'=true
instance {b:Bool}:One (.bool b):=⟨rfl⟩
instance {k:IntKind}{i:Int}:One (.int k i):=⟨rfl⟩
instance {s:ByteArray}:One (.string s):=⟨rfl⟩
instance {p:Option Addr}:One (.pointer p):=⟨rfl⟩
instance {p:Option Addr}{n c:Nat}:One (.slice p n c):=⟨rfl⟩
instance {p:Option Nat}:One (.map p):=⟨rfl⟩
instance (priority:=low){l l':List Value}{i:Nat}{v:Value}[o:One v][h:Fq l i v l']:bD l.toArray i v l'.toArray:=
 ⟨by rw[nS o.ok];simp[h.ok],by have:=h.lt;simp[cells_one o.ok];omega⟩
class Cells(cs:Array Value)(n:outParam Nat):Prop where
 size:cs.size=n
 one:∀u∈cs.toList,u.oneCell'=true
section
variable {P:Program} {w0:World} {σ:Env} {H:List SA} {d:Option Nat} {ty:TypeId} {pos:String} {aft:Array Edge} {g:Option (Nat×Bool)}
theorem cg{x:Operand}(v:Value)(h:ev σ x=v):Qt P w0 H σ ⟨d,.move x,ty,pos,aft,g⟩ v:=fun w _=>by rw[←h];rfl
theorem dQ{x:Operand}(v:Value)(h:ev σ x=v):Qt P w0 H σ ⟨d,.assign x,ty,pos,aft,g⟩ v:=fun w _=>by rw[←h];rfl
theorem jy{c x y:Operand}{b:Bool}(v:Value)(hc:ev σ c= .bool b)(hb:b=true)(h:ev σ x=v):Qt P w0 H σ ⟨d,.pick c x y,ty,pos,aft,g⟩ v:=fun w _=>by
 simp[execOp,hc,hb,asBool,h]
theorem kc{c x y:Operand}{b:Bool}(v:Value)(hc:ev σ c= .bool b)(hb:b=false)(h:ev σ y=v):Qt P w0 H σ ⟨d,.pick c x y,ty,pos,aft,g⟩ v:=fun w _=>by
 simp[execOp,hc,hb,asBool,h]
theorem aN{x:Operand}{a:Addr}(h:ev σ x= .pointer (some a)):Qt P w0 H σ ⟨d,.nilCheck x,ty,pos,aft,g⟩ (.pointer (some a)):=fun w _=>by
 simp[execOp,h]
theorem kO{x:Operand}{b o off s f:Nat}(off':Nat)(h:ev σ x= .pointer (some ⟨b,o,none⟩))[hf:gv P s f off](ho:o+off=off'):Qt P w0 H σ ⟨d,.fieldAddr s x f,ty,pos,aft,g⟩ (.pointer (some ⟨b,off',none⟩)):=fun w _=>by
 have hb:=hf.ok;unfold DF at hb
 split at hb
 · rename_i fs hs
   split at hb
   · rename_i fd hfd
     simp only[Xz,beq_iff_eq]at hb;obtain⟨h1,h2⟩:=hb
     split at h2
     · rename_i i hi
       simp only[bne_iff_ne,ne_eq]at h2;subst h1;subst ho;simp only[execOp,h,Instr.fieldAt,Sem.run_bind,run_underlying hs,Result.andThen_ok,hfd,Instr.sureAddr,Sem.run_pure,fieldPlace,cC hi,h2,if_false];simp only[Addr.add]
       split<;>simp_all
     · cases h2
   · cases hb
 · cases hb
theorem iU{x:Operand}{cs:Array Value}{s f off:Nat}{v:Value}{ft:TypeId}(h:ev σ x= .agg cs)[hf:gv P s f off](hft:(match P.underlying s with|some (.struct fs)=>(fs[f]?).map (·.type)|_=>none)=some ft)
   [h1:nT P ft][hc:aw cs off v]:Qt P w0 H σ ⟨d,.field s x f,ty,pos,aft,g⟩ v:=fun w _=>by
 have hb:=hf.ok;unfold DF at hb
 split at hb
 · rename_i fs hs
   split at hb
   · rename_i fd hfd
     simp only[Xz,beq_iff_eq]at hb;obtain⟨e1,-⟩:=hb;simp only[hs,hfd,XK,Yq]at hft;obtain⟨dd,i,hd1,hd2,-⟩:=h1.spec;subst e1;subst hft;simp only[execOp,h,Instr.field,Sem.run_bind,run_underlying hs,Result.andThen_ok,hfd,asAgg,Sem.run_pure,part,jv hd1,hd2,Xm,if_false,hc.ok]
   · cases hb
 · cases hb
theorem di{w:World}{b i:Nat}{cs:Array Value}{t:TypeId}{fz:Nat×Nat}(h:w.heap[b]? =some (.cells cs t fz)):w.cell? ⟨b,i,none⟩=cs[i]? :=by
 simp[World.cell?,h]
theorem fI(b o i:Nat):(⟨b,o,none⟩:Addr).add i=⟨b,o+i,none⟩:=by unfold Addr.add;split<;>simp_all
theorem extract_toList(cs:Array Value)(o n:Nat):(cs.extract o (o+n)).toList=(cs.toList.drop o).take n:=by
 simp[List.extract]
theorem k8{w:World}{b i:Nat}{t:TypeId}{v:Value}(h1:nT P t)(h:w.cell? ⟨b,i,none⟩=some v):(loadVar t ⟨b,i,none⟩).run P w= .ok v w:=by
 obtain⟨dd,ii,hd1,hd2,-⟩:=h1.spec;simp only[loadVar,Sem.run_bind,jv hd1,hd2,Result.andThen_ok,Xm,if_false,run_load,h]
theorem qw{w:World}{b o n:Nat}{t u:TypeId}{cs:Array Value}{fz:Nat×Nat}(h1:oI P t n)(h:w.heap[b]? =some (.cells cs u fz))(hn:o+n<=cs.size):(loadVar t ⟨b,o,none⟩).run P w= .ok (.agg (cs.extract o (o+n))) w:=by
 obtain⟨dd,ii,hd1,hd2,hi,hs⟩:=h1.spec;have hl:=run_loadCells_list (P:=P) (w:=w) ⟨b,o,none⟩ (cs.extract o (o+n)).toList (fun j v hj=>by
   rw[fI,di h];rw[extract_toList,XR]at hj
   split at hj
   · simpa using hj
   · cases hj)
 have hlen:(cs.extract o (o+n)).toList.length=n:=so;rw[hlen]at hl;simp only[loadVar,Sem.run_bind,jv hd1,hd2,Result.andThen_ok,if_true,cC hi,hs,hl,Sem.run_pure]
theorem mV{x:Operand}{t b i u:Nat}{cs:Array Value}{fz:Nat×Nat}{v:Value}(h:ev σ x= .pointer (some ⟨b,i,none⟩))[h1:nT P t][hm:Mem w0 H b (.cells cs u fz)][hc:aw cs i v]:Qt P w0 H σ ⟨d,.load t x,ty,pos,aft,g⟩ v:=fun w hw=>by
 have hcell:w.cell? ⟨b,i,none⟩=some v:=by rw[di (hm.get w hw)];exact hc.ok
 simp only[execOp,h,Instr.loadAt,Instr.sureAddr,Sem.run_bind,Sem.run_pure,Result.andThen_ok,k8 h1 hcell]
theorem kk{x:Operand}{t b i:Nat}(v:Value)(h:ev σ x= .pointer (some ⟨b,i,none⟩))[h1:nT P t](hc:∀w,St w0 H w->w.cell? ⟨b,i,none⟩=some v):Qt P w0 H σ ⟨d,.load t x,ty,pos,aft,g⟩ v:=fun w hw=>by
 simp only[execOp,h,Instr.loadAt,Instr.sureAddr,Sem.run_bind,Sem.run_pure,Result.andThen_ok,k8 h1 (hc w hw)]
theorem pq{x:Operand}{t b o n u m:Nat}{cs sub:Array Value}{fz:Nat×Nat}(h:ev σ x= .pointer (some ⟨b,o,none⟩))[h1:oI P t n][hm:Mem w0 H b (.cells cs u fz)][hz:Cells cs m][hc:dh cs o n sub](hn:Nat.ble (o+n) m=true):Qt P w0 H σ ⟨d,.load t x,ty,pos,aft,g⟩ (.agg sub):=fun w hw=>by
 have:=qw h1 (hm.get w hw) (by rw[hz.size];exact XL hn);rw[hc.ok]at this;simp only[execOp,h,Instr.loadAt,Instr.sureAddr,Sem.run_bind,Sem.run_pure,Result.andThen_ok,this]
theorem eo{x:Operand}{vs:Array Value}{i:Nat}{v:Value}(h:ev σ x= .tuple vs)[hc:aw vs i v]:Qt P w0 H σ ⟨d,.extract x i,ty,pos,aft,g⟩ v:=fun w _=>by
 simp only[execOp,h,Instr.extract,hc.ok,Sem.run_bind,Sem.run_pure,Result.andThen_ok]
theorem oX{op:BinOp}{t:TypeId}{x y:Operand}{k k':IntKind}{a b:Int}(w:World):(eqGuard op t x y (.int k a) (.int k' b)).run P w= .ok () w:=by
 unfold eqGuard;cases op<;>rfl
theorem kX{op:BinOp}{t t':TypeId}{x y:Operand}{k:IntKind}{a b:Int}{r:Bool}(hx:ev σ x= .int k a)(hy:ev σ y= .int k b)(hr:Op.intCmp op a b=pure (.bool r))(hop:match op with| .eql| .neq| .lss| .leq| .gtr| .geq=>True|_=>False):Qt P w0 H σ ⟨d,.binOp op t x y t',ty,pos,aft,g⟩ (.bool r):=fun w _=>by
 simp only[execOp,hx,hy,Sem.run_bind,oX,Result.andThen_ok];cases op<;>simp at hop<;>simp[binOp,hr]
theorem ph{t t':TypeId}{x y:Operand}{k:IntKind}{a b:Int}(hx:ev σ x= .int k a)(hy:ev σ y= .int k b):Qt P w0 H σ ⟨d,.binOp .eql t x y t',ty,pos,aft,g⟩ (.bool (decide (a=b))):=
 kX hx hy (by simp only[Op.intCmp];congr 2) trivial
theorem qU{t t':TypeId}{x y:Operand}{k:IntKind}{a b:Int}(hx:ev σ x= .int k a)(hy:ev σ y= .int k b):Qt P w0 H σ ⟨d,.binOp .neq t x y t',ty,pos,aft,g⟩ (.bool (decide (a≠b))):=
 kX hx hy (by simp only[Op.intCmp];congr 2;simp[bne,Bool.beq_eq_decide_eq,decide_not]) trivial
theorem mL{t t':TypeId}{x y:Operand}{k:IntKind}{a b:Int}(hx:ev σ x= .int k a)(hy:ev σ y= .int k b):Qt P w0 H σ ⟨d,.binOp .lss t x y t',ty,pos,aft,g⟩ (.bool (decide (a<b))):=kX hx hy rfl trivial
theorem A3{t t':TypeId}{x y:Operand}{k:IntKind}{a b:Int}(hx:ev σ x= .int k a)(hy:ev σ y= .int k b):Qt P w0 H σ ⟨d,.binOp .leq t x y t',ty,pos,aft,g⟩ (.bool (decide (a<=b))):=kX hx hy rfl trivial
theorem sU{t t':TypeId}{x y:Operand}{k:IntKind}{a b:Int}(hx:ev σ x= .int k a)(hy:ev σ y= .int k b):Qt P w0 H σ ⟨d,.binOp .gtr t x y t',ty,pos,aft,g⟩ (.bool (decide (b<a))):=kX hx hy rfl trivial
theorem zV{t t':TypeId}{x y:Operand}{k:IntKind}{a b:Int}(hx:ev σ x= .int k a)(hy:ev σ y= .int k b):Qt P w0 H σ ⟨d,.binOp .geq t x y t',ty,pos,aft,g⟩ (.bool (decide (b<=a))):=kX hx hy rfl trivial
theorem gL{op:BinOp}{t t':TypeId}{x y:Operand}{k:IntKind}{a b:Int}{r:Value}(hx:ev σ x= .int k a)(hy:ev σ y= .int k b)(hr:binOp op t (.int k a) (.int k b)=pure r):Qt P w0 H σ ⟨d,.binOp op t x y t',ty,pos,aft,g⟩ r:=fun w _=>by
 simp only[execOp,hx,hy,Sem.run_bind,oX,Result.andThen_ok,hr,Sem.run_pure]
theorem bU{t t':TypeId}{x y:Operand}{k:IntKind}{a b:Int}(hx:ev σ x= .int k a)(hy:ev σ y= .int k b):Qt P w0 H σ ⟨d,.binOp .add t x y t',ty,pos,aft,g⟩ (.int k (k.wrap (a+b))):=gL hx hy ahZ
theorem iq{t t':TypeId}{x y:Operand}{k:IntKind}{a b:Int}(hx:ev σ x= .int k a)(hy:ev σ y= .int k b):Qt P w0 H σ ⟨d,.binOp .sub t x y t',ty,pos,aft,g⟩ (.int k (k.wrap (a-b))):=gL hx hy ahZ
theorem gq{t t':TypeId}{x y:Operand}{k:IntKind}{a b:Int}(hx:ev σ x= .int k a)(hy:ev σ y= .int k b):Qt P w0 H σ ⟨d,.binOp .mul t x y t',ty,pos,aft,g⟩ (.int k (k.wrap (a*b))):=gL hx hy ahZ
theorem wrap_i64{n:Int}(h1: -9223372036854775808<=n)(h2:n<=9223372036854775807):IntKind.i64.wrap n=n:=by
 simp only[IntKind.wrap,IntKind.bits,IntKind.signed];simp only[Bool.true_and];split<;>simp_all<;>omega
theorem gh{t t':TypeId}{x y:Operand}{a b:Int}(hx:ev σ x= .int .i64 a)(hy:ev σ y= .int .i64 b)(h1: -9223372036854775808<=a+b)(h2:a+b<=9223372036854775807):Qt P w0 H σ ⟨d,.binOp .add t x y t',ty,pos,aft,g⟩ (.int .i64 (a+b)):=gL hx hy afp
theorem jG{t t':TypeId}{x y:Operand}{a b:Int}(hx:ev σ x= .int .i64 a)(hy:ev σ y= .int .i64 b)(h1: -9223372036854775808<=a-b)(h2:a-b<=9223372036854775807):Qt P w0 H σ ⟨d,.binOp .sub t x y t',ty,pos,aft,g⟩ (.int .i64 (a-b)):=gL hx hy afp
theorem mG{t t':TypeId}{x y:Operand}{a b:Int}(hx:ev σ x= .int .i64 a)(hy:ev σ y= .int .i64 b)(h1: -9223372036854775808<=a*b)(h2:a*b<=9223372036854775807):Qt P w0 H σ ⟨d,.binOp .mul t x y t',ty,pos,aft,g⟩ (.int .i64 (a*b)):=gL hx hy afp
theorem IE{t t':TypeId}{x y:Operand}{k:IntKind}{a b:Int}(hx:ev σ x= .int k a)(hy:ev σ y= .int k b):Qt P w0 H σ ⟨d,.binOp .and t x y t',ty,pos,aft,g⟩ (.int k (k.wrap (BitVec.ofInt k.bits a&&& BitVec.ofInt k.bits b).toNat)):=gL hx hy ah5
theorem MT{t t':TypeId}{x y:Operand}{k:IntKind}{a b:Int}(hx:ev σ x= .int k a)(hy:ev σ y= .int k b):Qt P w0 H σ ⟨d,.binOp .or t x y t',ty,pos,aft,g⟩ (.int k (k.wrap (BitVec.ofInt k.bits a|||BitVec.ofInt k.bits b).toNat)):=gL hx hy ah5
theorem D9{t t':TypeId}{x y:Operand}{k:IntKind}{a b:Int}(hx:ev σ x= .int k a)(hy:ev σ y= .int k b):Qt P w0 H σ ⟨d,.binOp .xor t x y t',ty,pos,aft,g⟩ (.int k (k.wrap (BitVec.ofInt k.bits a^^^BitVec.ofInt k.bits b).toNat)):=gL hx hy ah5
theorem B7{op:BinOp}{t t':TypeId}{x y:Operand}{k k':IntKind}{a b:Int}{r:Value}(hx:ev σ x= .int k a)(hy:ev σ y= .int k' b)(hr:binOp op t (.int k a) (.int k' b)=pure r):Qt P w0 H σ ⟨d,.binOp op t x y t',ty,pos,aft,g⟩ r:=fun w _=>by
 simp only[execOp,hx,hy,Sem.run_bind,oX,Result.andThen_ok,hr,Sem.run_pure]
theorem EN{t t':TypeId}{x y:Operand}{k k':IntKind}{a b:Int}(hx:ev σ x= .int k a)(hy:ev σ y= .int k' b)(hb:0<=b):Qt P w0 H σ ⟨d,.binOp .shl t x y t',ty,pos,aft,g⟩ (.int k (k.wrap (a*2^(min b.toNat k.bits)))):=B7 hx hy (by simp[binOp,Op.shift,Int.not_lt.2 hb])
theorem Eo{t t':TypeId}{x y:Operand}{k k':IntKind}{a b:Int}(hx:ev σ x= .int k a)(hy:ev σ y= .int k' b)(hb:0<=b):Qt P w0 H σ ⟨d,.binOp .shr t x y t',ty,pos,aft,g⟩ (.int k (a.fdiv (2^(min b.toNat k.bits)))):=B7 hx hy (by simp[binOp,Op.shift,Int.not_lt.2 hb])
theorem qG{t t':TypeId}{x y:Operand}{k:IntKind}{a b:Int}(hx:ev σ x= .int k a)(hy:ev σ y= .int k b)(hb:b≠0):Qt P w0 H σ ⟨d,.binOp .quo t x y t',ty,pos,aft,g⟩ (.int k (k.wrap (a.tdiv b))):=gL hx hy (by simp[binOp,Op.intDiv,hb])
theorem mc{t t':TypeId}{x y:Operand}{k:IntKind}{a b:Int}(hx:ev σ x= .int k a)(hy:ev σ y= .int k b)(hb:b≠0):Qt P w0 H σ ⟨d,.binOp .rem t x y t',ty,pos,aft,g⟩ (.int k (a.tmod b)):=gL hx hy (by simp[binOp,Op.intDiv,hb])
theorem tm{t:TypeId}{x:Operand}{b:Bool}(hx:ev σ x= .bool b):Qt P w0 H σ ⟨d,.unOp .not t x,ty,pos,aft,g⟩ (.bool (!b)):=fun w _=>by
 simp[execOp,hx,Op.unary]
theorem z7{t:TypeId}{x:Operand}{k:IntKind}{a:Int}(hx:ev σ x= .int k a):Qt P w0 H σ ⟨d,.unOp .neg t x,ty,pos,aft,g⟩ (.int k (k.wrap (0-a))):=fun w _=>by
 simp[execOp,hx,Op.unary,Op.intArith]
theorem bV{s t:TypeId}{x:Operand}{k k':IntKind}{a:Int}(hx:ev σ x= .int k a)(hs:(P.underlying s).isSome=true)(ht:P.underlying t=some (.int k')):Qt P w0 H σ ⟨d,.convert s t x,ty,pos,aft,g⟩ (.int k' (k'.wrap a)):=fun w _=>by
 obtain⟨ds,hs'⟩:=XH.1 hs;simp only[execOp,hx,convert,Sem.run_bind,run_underlying hs',run_underlying ht,Result.andThen_ok];simp[Conv.intToInt]
theorem wrap_u64{n:Int}(h1:0<=n)(h2:n<18446744073709551616):IntKind.u64.wrap n=n:=by
 simp only[IntKind.wrap,IntKind.bits,IntKind.signed];simp;omega
theorem cV{s t:TypeId}{x:Operand}{k:IntKind}{a:Int}(hx:ev σ x= .int k a)(hs:(P.underlying s).isSome=true)(ht:P.underlying t=some (.int .u64))(h1:0<=a)(h2:a<18446744073709551616):Qt P w0 H σ ⟨d,.convert s t x,ty,pos,aft,g⟩ (.int .u64 a):=by
 have:=bV (P:=P) (w0:=w0) (H:=H) (d:=d) (ty:=ty) (pos:=pos) (aft:=aft) (g:=g) hx hs ht
 rwa [wrap_u64 h1 h2]at this
theorem bF{s t:TypeId}{x:Operand}{k:IntKind}{a:Int}(hx:ev σ x= .int k a)(hs:(P.underlying s).isSome=true)(ht:P.underlying t=some (.int .i64))(h1: -9223372036854775808<=a)(h2:a<=9223372036854775807):Qt P w0 H σ ⟨d,.convert s t x,ty,pos,aft,g⟩ (.int .i64 a):=by
 have:=bV (P:=P) (w0:=w0) (H:=H) (d:=d) (ty:=ty) (pos:=pos) (aft:=aft) (g:=g) hx hs ht
 rwa [wrap_i64 h1 h2]at this
theorem oC{t e:TypeId}{p:Option Addr}(k:Nat)(ht:P.underlying t=some (.pointer e))(w:World):(Op.equalIn (k+1) t (.pointer p) (.pointer none)).run P w= .ok p.isNone w:=by
 cases p<;>simp[Op.equalIn,run_underlying ht]
theorem bt{x y:Operand}{t t' e:TypeId}{p:Option Addr}(hx:ev σ x= .pointer p)(hy:ev σ y= .pointer none)(ht:P.underlying t=some (.pointer e)):Qt P w0 H σ ⟨d,.binOp .eql t x y t',ty,pos,aft,g⟩ (.bool p.isNone):=fun w _=>by
 have h1:(eqGuard .eql t x y (.pointer p) (.pointer none)).run P w= .ok () w:=by rfl
 have h2:(binOp .eql t (.pointer p) (.pointer none))=(do pure (.bool (←Op.equalIn (9999+1) t (.pointer p) (.pointer none)))):=by cases p<;>rfl
 simp only[execOp,hx,hy,Sem.run_bind,h1,h2,Result.andThen_ok,oC 9999 ht,Sem.run_pure]
theorem pz{x y:Operand}{t t' e:TypeId}{p:Option Addr}(hx:ev σ x= .pointer p)(hy:ev σ y= .pointer none)(ht:P.underlying t=some (.pointer e)):Qt P w0 H σ ⟨d,.binOp .neq t x y t',ty,pos,aft,g⟩ (.bool (!p.isNone)):=fun w _=>by
 have h1:(eqGuard .neq t x y (.pointer p) (.pointer none)).run P w= .ok () w:=by rfl
 have h2:(binOp .neq t (.pointer p) (.pointer none))=(do pure (.bool (!(←Op.equalIn (9999+1) t (.pointer p) (.pointer none))))):=by cases p<;>rfl
 simp only[execOp,hx,hy,Sem.run_bind,h1,h2,Result.andThen_ok,oC 9999 ht,Sem.run_pure]
theorem rR{t e:TypeId}{a:Option Addr}{m c:Nat}(k:Nat)(ht:P.underlying t=some (.slice e))(w:World):(Op.equalIn (k+1) t (.slice a m c) (.slice none 0 0)).run P w= .ok a.isNone w:=by
 cases a<;>simp[Op.equalIn,run_underlying ht]
theorem nN{x y:Operand}{t t' e:TypeId}{a:Option Addr}{m c:Nat}(hx:ev σ x= .slice a m c)(hy:ev σ y= .slice none 0 0)(ht:P.underlying t=some (.slice e)):Qt P w0 H σ ⟨d,.binOp .eql t x y t',ty,pos,aft,g⟩ (.bool a.isNone):=fun w _=>by
 have h1:(eqGuard .eql t x y (.slice a m c) (.slice none 0 0)).run P w= .ok () w:=by rfl
 have h2:(binOp .eql t (.slice a m c) (.slice none 0 0))=(do pure (.bool (←Op.equalIn (9999+1) t (.slice a m c) (.slice none 0 0)))):=by rfl
 simp only[execOp,hx,hy,Sem.run_bind,h1,h2,Result.andThen_ok,rR 9999 ht,Sem.run_pure]
theorem lN{x:Operand}{t e:TypeId}{a:Option Addr}{n c:Nat}(hx:ev σ x= .slice a n c)(ht:P.underlying t=some (.slice e)):Qt P w0 H σ ⟨d,.call ⟨.builtin .len,#[x],#[t]⟩,ty,pos,aft,g⟩ (.int .i64 n):=fun w _=>by
 simp[execOp,resolve,invoke,builtin,Builtin.len_,hx,run_underlying ht,goInt]
theorem iW{x:Operand}{t:TypeId}{s:ByteArray}(hx:ev σ x= .string s)(ht:P.underlying t=some .string):Qt P w0 H σ ⟨d,.call ⟨.builtin .len,#[x],#[t]⟩,ty,pos,aft,g⟩ (.int .i64 s.size):=fun w _=>by
 simp[execOp,resolve,invoke,builtin,Builtin.len_,hx,run_underlying ht,goInt]
theorem iF{x i:Operand}{t e:TypeId}{b o n c sz:Nat}{k:IntKind}{j:Int}{ei:TypeInfo}(hx:ev σ x= .slice (some ⟨b,o,none⟩) n c)(hi:ev σ i= .int k j)(ht:P.underlying t=some (.slice e))(he:P.info? e=some ei)(hsz:ei.size=sz)(h0:0<=j)(hn:j<n):Qt P w0 H σ ⟨d,.indexAddr t x i,ty,pos,aft,g⟩ (.pointer (some ⟨b,o+j.toNat*sz,none⟩)):=fun w _=>by
 subst hsz;simp only[execOp,hx,hi,Instr.indexAt,asIntOf,Sem.run_bind,Sem.run_pure,Result.andThen_ok,run_underlying ht,h0,hn,and_self,if_true,cC he,fI]
theorem ct{x i:Operand}{t e:TypeId}{b o n sz:Nat}{k:IntKind}{j:Int}{ei:TypeInfo}(hx:ev σ x= .pointer (some ⟨b,o,none⟩))(hi:ev σ i= .int k j)(ht:P.underlying t=some (.array n e))(he:P.info? e=some ei)(hsz:ei.size=sz)(h0:0<=j)(hn:j<n):Qt P w0 H σ ⟨d,.indexAddr t x i,ty,pos,aft,g⟩ (.pointer (some ⟨b,o+j.toNat*sz,none⟩)):=fun w _=>by
 subst hsz;simp only[execOp,hx,hi,Instr.indexAt,asIntOf,Sem.run_bind,Sem.run_pure,Result.andThen_ok,run_underlying ht,Instr.sureAddr,h0,hn,and_self,if_true,cC he,fI]
end
end Go.Sx
end
section
namespace Go.Sx
open Go.RowKit
def cY(w:World)(v:Value)(sz:Nat)(xs:List Value):Prop:=
 ∃a n c,v= .slice a n c/\xs.length=n*sz/\n<=c/\c<=maxLen/\(0<xs.length->∃b o,a=some ⟨b,o,none⟩/\∀j u,xs[j]? =some u->w.cell? ⟨b,o+j,none⟩=some u)
theorem cY.gQ{w w':World}{v:Value}{sz:Nat}{xs:List Value}(h:cY w v sz xs)(hb:∀k,k<w.heap.size->w'.heap[k]? =w.heap[k]?):cY w' v sz xs:=by
 obtain⟨a,n,c,hv,hl,hn,hc,hx⟩:=h;refine⟨a,n,c,hv,hl,hn,hc,fun h0=>?_⟩;obtain⟨b,o,ha,hcell⟩:=hx h0;refine⟨b,o,ha,fun j u hj=>?_⟩;have h1:=hcell j u hj;have h2:b<w.heap.size:=World.block_lt_of_cell? w _ h1;rw[←h1];simp only[World.cell?,hb b h2]
def jM(b:UInt8):Value:= .int .u8 b.toNat
def aE(l:List UInt8):List Value:=l.map jM
def gN(w:World)(v:Value)(l:List UInt8):Prop:=cY w v 1 (aE l)
class gy(w0:World)(H:List SA)(v:Value)(sz:Nat)(xs:outParam (List Value)):Prop where rd:∀w,St w0 H w->cY w v sz xs
class dT(w0:World)(H:List SA)(v:Value)(l:outParam (List UInt8)):Prop where rd:∀w,St w0 H w->gN w v l
instance gy.tail{w0:World}{H:List SA}{x:SA}{v:Value}{sz:Nat}{xs:List Value}[h:gy w0 H v sz xs]:gy w0 (x::H) v sz xs:=⟨fun w hw=>h.rd w hw.tail⟩
instance dT.tail{w0:World}{H:List SA}{x:SA}{v:Value}{l:List UInt8}[h:dT w0 H v l]:dT w0 (x::H) v l:=⟨fun w hw=>h.rd w hw.tail⟩
instance (priority:=low) gy.bytes{w0:World}{H:List SA}{v:Value}{l:List UInt8}[h:dT w0 H v l]:gy w0 H v 1 (aE l):=⟨h.rd⟩
theorem pH(w:World)(sz:Nat):cY w (.slice none 0 0) sz []:=⟨none,0,0,rfl,sm,W8 _,by unfold maxLen;omega,sm⟩
instance (priority:=high) dT.nil{w0:World}{H:List SA}:dT w0 H (.slice none 0 0) []:=⟨fun w _=>pH w 1⟩
instance (priority:=high) gy.nil{w0:World}{H:List SA}{sz:Nat}:gy w0 H (.slice none 0 0) sz []:=⟨fun w _=>pH w sz⟩
theorem gy.base{w0:World}{H:List SA}{v:Value}{sz:Nat}{xs:List Value}(h:cY w0 v sz xs):gy w0 H v sz xs:=⟨fun _ hw=>h.gQ hw.below.block⟩
theorem dT.base{w0:World}{H:List SA}{v:Value}{l:List UInt8}(h:gN w0 v l):dT w0 H v l:=⟨fun _ hw=>cY.gQ h hw.below.block⟩
def bQ:Value->List Nat
 | .slice (some a) _ c=>if c=0 then[]else[a.block]
 |_=>[]
def qS(v:Value)(e:TypeId)(sz:Nat)(xs:List Value)(w:World):Prop:=
 ∃a n c,v= .slice a n c/\xs.length=n*sz/\n<=c/\c<=maxLen/\(a=none->c=0)/\
   (c≠0->∃g cur,a=some ⟨g,0,none⟩/\w.heap[g]? =some (.cells cur e (0,0))/\cur.size=c*sz/\cur.toList.take (n*sz)=xs)
def row(v:Value)(e:TypeId)(sz:Nat)(xs:List Value):SA:=⟨bQ v,qS v e sz xs,fun w w' h hp=>by
 obtain⟨a,n,c,hv,hl,hn,hc,ha,hx⟩:=hp;refine⟨a,n,c,hv,hl,hn,hc,ha,fun h0=>?_⟩;obtain⟨g,cur,hg,hw,h1,h2⟩:=hx h0;refine⟨g,cur,hg,?_,h1,h2⟩;rw[h g (by subst hv;subst hg;simp[bQ,h0])];exact hw⟩
theorem qS.cells{v:Value}{e:TypeId}{sz:Nat}{xs:List Value}{w:World}(h:qS v e sz xs w):cY w v sz xs:=by
 obtain⟨a,n,c,hv,hl,hn,hc,ha,hx⟩:=h;refine⟨a,n,c,hv,hl,hn,hc,fun h0=>?_⟩;have hc0:c≠0:=by
   rintro rfl;obtain rfl:n=0:=om;simp at hl;simp[hl]at h0
 obtain⟨g,cur,hg,hw,h1,h2⟩:=hx hc0;refine⟨g,0,hg,fun j u hj=>?_⟩;rw[di hw];rw[←h2,XR]at hj
 split at hj
 · simpa using hj
 · cases hj
instance gy.ofRow{w0:World}{H:List SA}{v:Value}{e:TypeId}{sz:Nat}{xs:List Value}:gy w0 (row v e sz xs::H) v sz xs:=⟨fun w hw=>qS.cells (hw.holds (row v e sz xs) sm)⟩
instance dT.ofRow{w0:World}{H:List SA}{v:Value}{e:TypeId}{l:List UInt8}:dT w0 (row v e 1 (aE l)::H) v l:=⟨fun w hw=>qS.cells (hw.holds (row v e 1 (aE l)) sm)⟩
theorem Jy(e:TypeId)(sz:Nat)(w:World):qS (.slice none 0 0) e sz [] w:=⟨none,0,0,rfl,sm,W8 _,by unfold maxLen;omega,fun _=>rfl,fun h=>absurd rfl h⟩
theorem St.cT{w0 w:World}{H:List SA}(e:TypeId)(sz:Nat)(h:St w0 H w):St w0 (row (.slice none 0 0) e sz []::H) w:=
 h.fresh rfl rfl rfl (W8 _) (fun _ _=>rfl) (Jy e sz w) aee aee
theorem xk{P:Program}{t ty e:TypeId}{i:TypeInfo}{z:Value}{sz bytes:Nat}(ht:P.underlying t=some (.slice e))(hi:P.info? e=some i)(hz:i.zero=some z)
   (hsz:i.size=sz)(hby:i.bytes=bytes)(hzs:z.cells.size=sz)(hpos:0<sz){w0 w:World}{H:List SA}{v x:Value}{xs news:List Value}{m:Nat}
   (hw:St w0 (row v e sz xs::H) w)(hx:cY w x sz news)(hm:news.length=m*sz)(h1:∀u∈news,u.oneCell'=true)
   (h63:xs.length+news.length<=281474976710656)(hb:(xs.length+news.length)*bytes<=140737488355328):∃v' w',(Builtin.append_ #[t,t] ty #[v,x]).run P w= .ok v' w'/\St w0 (row v' e sz (xs++news)::H) w':=by
 have hr:qS v e sz xs w:=hw.holds (row v e sz xs) sm;have hr':=hr;obtain⟨a,n,c,hv,hl,hn,hc,ha,hcur⟩:=hr;obtain⟨xa,m',xc,hxv,hxl,hxm,hxc,hxcell⟩:=hx;obtain rfl:m'=m:=by
   have h2:m'*sz=m*sz:=hxl.symm.trans hm;exact Nat.eq_of_mul_eq_mul_right hpos h2
 have hnx:n<=xs.length:=by rw[hl];exact Nat.le_mul_of_pos_right _ hpos
 have hmx:m'<=news.length:=by rw[hm];exact Nat.le_mul_of_pos_right _ hpos
 subst hsz;subst hby;subst hv;subst hxv;have hnb:(n+m')*i.bytes<=140737488355328:=Yk (Xp _ om) hb;have hlen:(xs++news).length=(n+m')*i.size:=by rw[WX,hl,hm,XY]
 by_cases hm0:m'=0
 · subst hm0
   have hnews:news=[]:=Xr (by simpa using hm);subst hnews;refine⟨.slice a n c,w,?_,by simpa using hw⟩;have hf:∀ad:Addr,(loadCells ad 0).run P w= .ok #[] w:=fun ad=>by simp[loadCells,loadCellsFrom]
   cases a with
   |none=>
     cases xa<;>simp[Builtin.append_,run_underlying ht,sizeOf,typeInfo,hi,Builtin.lenOf,Builtin.firstCells,hn,hf]
   |some ad=>
     cases xa<;>simp[Builtin.append_,run_underlying ht,sizeOf,typeInfo,hi,Builtin.lenOf,Builtin.firstCells,hn,hf,storeCells]
 have hmpos:0<m':=om;have hnpos:0<news.length:=om;obtain⟨sb,so,hsa,hscell⟩:=hxcell hnpos;subst hsa;have hnewsAt:∀j u,news[j]? =some u->w.cell? ((⟨sb,so,none⟩:Addr).add j)=some u:=fun j u hj=>by rw[fI];exact hscell j u hj
 have grown:∀old,c=old->old<n+m'->∀w',w'=w.drew.alloc (.cells (xs.toArray++news.toArray++Builtin.zeroCells z.cells (grownCap w (n+m') old e-(n+m'))) e)->
     St w0 (row (.slice (some ⟨w.heap.size,0,none⟩) (n+m') (grownCap w (n+m') old e)) e i.size (xs++news)::H) w':=by
   intro old _ ho w' hw';subst hw';have hge:=grownCap_ge w (n+m') old e;have hcm:grownCap w (n+m') old e<=maxLen:=grownCap_le_maxLen w (n+m') old e agI;have h0:grownCap w (n+m') old e≠0:=om;refine St.fresh hw.tail rfl rfl rfl sm (fun k hk=>heap_alloc_old w.drew _ hk) ?_ ?_ ?_
   · refine⟨_,_,_,rfl,hlen,hge,hcm,sm,fun _=>⟨_,_,rfl,heap_alloc_new w.drew _,?_,?_⟩⟩
     · simp only[Y1,X5,size_zeroCells,hzs,hl,hm,←XY]
       congr 1
       omega
     · simp only[Array.toList_append,W4]
       rw[←W4,←hlen];exact Y5
   · simp[row,bQ,h0]
   · simp[row,bQ,h0]
 by_cases hroom:n+m'<=c
 · have hc0:c≠0:=om
   obtain⟨g,cur,hg,hgw,hcs,htake⟩:=hcur hc0;subst hg;have hfit:n*i.size+news.length<=cur.size:=by rw[hm,hcs,←XY];exact Xp _ hroom
   have hrun:=run_append_room (P:=P) w t ty e i ht hi g n c cur hgw ⟨sb,so,none⟩ m' xc news hm hnewsAt h1 hroom hfit;refine⟨_,_,hrun,?_⟩;refine St.swap hw rfl rfl rfl sm (fun k _ hk=>setRow_other w g k _ (fun e=>hk (by simp[row,bQ,hc0,e]))) ?_ ?_ ?_
   · refine⟨_,_,_,rfl,hlen,hroom,hc,sm,fun _=>⟨_,_,rfl,setRow_heap w g cur _ e _ hgw,?_,?_⟩⟩
     · simp only[X5,WX,Xj,Xe,Array.length_toList]
       omega
     · rw[htake,←hlen]
       exact Y5
   · simp[row,bQ,hc0]
   · intro b hb'
     simp[row,bQ,hc0]at hb';subst hb';have:=(hw.lo (row (.slice (some ⟨b,0,none⟩) n c) e i.size xs) sm b ahz).2;exact⟨.inl ahz,by simpa using this⟩
 · cases a with
   |none=>
     have hc0:c=0:=ha rfl;subst hc0;obtain rfl:n=0:=om;have hxs:xs=[]:=Xr (by simpa using hl);subst hxs;have hrun:=run_append_nil (P:=P) w t ty e i z ht hi hz ⟨sb,so,none⟩ m' xc news hm hnewsAt hmpos (by simp at h63;omega) (by simp at hnb;omega);refine⟨_,_,hrun,?_⟩;have:=grown 0 rfl om _ rfl;simpa using this
   |some ad=>
     have holds:∀j u,xs[j]? =some u->w.cell? (ad.add j)=some u:=by
       intro j u hj;have hc0:c≠0:=by
         rintro rfl;obtain rfl:n=0:=om;simp at hl;subst hl;simp at hj
       obtain⟨g,cur,hg,hgw,hcs,htake⟩:=hcur hc0;obtain rfl:ad=⟨g,0,none⟩:=by simpa using hg
       rw[fI,di hgw];rw[←htake,XR]at hj
       split at hj
       · simpa using hj
       · cases hj
     have hrun:=run_append_grow (P:=P) w t ty e i z ht hi hz ad n c xs hl holds ⟨sb,so,none⟩ m' xc news hm hnewsAt om om (growslice_fits om hnb);exact⟨_,_,hrun,grown c rfl om _ rfl⟩
section
variable {P:Program} {w0:World} {σ:Env} {H:List SA} {d:Option Nat} {ty:TypeId} {pos:String} {aft:Array Edge} {g:Option (Nat×Bool)} {K:Value->List SA->Prop}
theorem I2{x:Operand}{t:TypeId}{v:Value}(cs:Array Value)(hx:ev σ x=v)(hcs:v.cells=cs)(h:∀b,K (.pointer (some ⟨b,0,none⟩)) (aF b (.cells cs t (0,0))::H)):Ef P w0 H σ ⟨d,.box t x,ty,pos,aft,g⟩ K:=fun w hw=>by
 simp only[execOp,hx,Instr.box,newVar,newRow,Sem.run_bind,run_newObj,Result.andThen_ok,Sem.run_pure,upon,hcs];exact ad8
theorem Dl{t:TypeId}{z:Value}[hz:lT P t z](cs:Array Value)(hcs:z.cells=cs)(h:∀b,K (.pointer (some ⟨b,0,none⟩)) (aF b (.cells cs t (0,0))::H)):Ef P w0 H σ ⟨d,.alloc t,ty,pos,aft,g⟩ K:=fun w hw=>by
 simp only[execOp,Instr.alloc,newVar,newRow,Sem.run_bind,fK hz.ok,run_newObj,Result.andThen_ok,Sem.run_pure,upon,hcs];exact ad8
theorem aZ{x:Operand}{t:TypeId}{cs:Array Value}(hx:ev σ x= .agg cs)(h:∀b,K (.pointer (some ⟨b,0,none⟩)) (aF b (.cells cs t (0,0))::H)):Ef P w0 H σ ⟨d,.box t x,ty,pos,aft,g⟩ K:=I2 cs hx rfl h
theorem z6{x:Operand}{t:TypeId}(v:Value)(hx:ev σ x=v)[ho:One v](h:∀b,K (.pointer (some ⟨b,0,none⟩)) (aF b (.cells #[v] t (0,0))::H)):Ef P w0 H σ ⟨d,.box t x,ty,pos,aft,g⟩ K:=I2 #[v] hx (cells_one ho.ok) h
theorem an{t:TypeId}{cs:Array Value}[hz:lT P t (.agg cs)](h:∀b,K (.pointer (some ⟨b,0,none⟩)) (aF b (.cells cs t (0,0))::H)):Ef P w0 H σ ⟨d,.alloc t,ty,pos,aft,g⟩ K:=Dl cs rfl h
theorem sR{t:TypeId}{z:Value}[hz:lT P t z][ho:One z](h:∀b,K (.pointer (some ⟨b,0,none⟩)) (aF b (.cells #[z] t (0,0))::H)):Ef P w0 H σ ⟨d,.alloc t,ty,pos,aft,g⟩ K:=Dl #[z] (cells_one ho.ok) h
theorem mh(P:Program){b off:Nat}{T:TypeId}:∀(vs:List Value)(i:Nat)(cs:Array Value)(w:World),w.heap[b]? =some (.cells cs T (0,0))->(∀v∈vs,v.oneCell'=true)->off+i+vs.length<=cs.size->
   ∃w',(storeCells ⟨b,off,none⟩ vs i).run P w= .ok () w'/\w'.heap[b]? =some (.cells ((vs.zipIdx i).foldl (fun cs (c,j)=>cs.setIfInBounds (off+j) c) cs) T (0,0))/\
     w'.os=w.os/\w'.tape=w.tape/\w'.output=w.output/\w'.heap.size=w.heap.size/\∀k,k≠b->w'.heap[k]? =w.heap[k]?
 |[],i,cs,w,hb,_,_=>⟨w,rfl,by simpa using hb,rfl,rfl,rfl,rfl,fun _ _=>rfl⟩
 |v::rest,i,cs,w,hb,h1,hl=>by
   have hi:off+i<cs.size:=by simp at hl;omega
   have hcell:w.cell? ⟨b,off+i,none⟩=some cs[off+i]:=by rw[di hb];simp[hi]
   have hfz:w.frozen? ⟨b,off+i,none⟩=false:=frozen_of_row w b (off+i) cs T hb;have hs:(store ((⟨b,off,none⟩:Addr).add i) v).run P w= .ok () (w.setCell ⟨b,off+i,none⟩ v):=by
     rw[fI,run_store P w _ v .plain (h1 v sm),hcell];simp[hfz]
   have hb':(w.setCell ⟨b,off+i,none⟩ v).heap[b]? =some (.cells (cs.setIfInBounds (off+i) v) T (0,0)):=by
     have:=heap_setCell_same w b (off+i) cs T v hb;simpa using this
   obtain⟨w',hrun,hbw,e1,e2,e3,e4,e5⟩:=mh P (b:=b) (off:=off) (T:=T) rest (i+1) _ _ hb' (fun u hu=>h1 u (by simp[hu])) (by simp at hl ⊢;omega);refine⟨w',?_,?_,e1,e2,e3,by rw[e4];simp[World.setCell],fun k hk=>(e5 k hk).trans (heap_setCell_other w _ k v hk)⟩
   · simp only[storeCells,Sem.run_bind,hs,Result.andThen_ok,hrun]
   · simpa using hbw
def ux(P:Program)(t:TypeId)(n:Nat):Bool:=match P.info? t with|some i=>i.size==n|none=>false
theorem CJ{a x:Operand}{t b off n:Nat}{T:TypeId}(v:Value){cs cs':Array Value}{Hr:List SA}(ha:ev σ a= .pointer (some ⟨b,off,none⟩))(hx:ev σ x=v)[hp:qC b H (.cells cs T (0,0)) Hr][hput:bD cs off v cs']
   (hsz:v.cells.size=n)(hone:∀u∈v.cells.toList,u.oneCell'=true)(ht:ux P t n=true)(h:K undef (aF b (.cells cs' T (0,0))::Hr)):Ef P w0 H σ ⟨d,.store t a x,ty,pos,aft,g⟩ K:=fun w hw=>by
 have hw':=hw.sub hp.sub;have hb:w.heap[b]? =some (.cells cs T (0,0)):=hw'.holds (aF b _) sm;have hi:∃i,P.info? t=some i/\i.size=n:=by
   unfold ux at ht
   split at ht
   · rename_i i hi;exact⟨i,hi,by simpa using ht⟩
   · cases ht
 obtain⟨i,hi,his⟩:=hi;obtain⟨w',hrun,hbw,e1,e2,e3,e4,e5⟩:=mh P (off:=off) v.cells.toList 0 cs w hb hone (by have:=hput.room;simp;omega);have hlt:b<w.heap.size:=(Xk.1 hb).1;have hcs':(v.cells.toList.zipIdx 0).foldl (fun cs (c,j)=>cs.setIfInBounds (off+j) c) cs=cs':=by
   rw[←hput.ok,putCells,←Array.foldl_toList];simp
 rw[hcs']at hbw;simp only[execOp,ha,hx,Instr.storeAt,Instr.sureAddr,storeVar,Sem.run_bind,Sem.run_pure,Result.andThen_ok,cC hi,his,hsz,ne_eq,not_true_eq_false,if_false,hrun,upon];refine⟨_,h,hw'.swap e1 e2 e3 om (fun k _ hk=>e5 k (by simpa[aF]using hk)) hbw (by simp[aF]) (fun k hk=>?_)⟩;simp[aF]at hk;subst hk;exact⟨.inl (by simp[aF]),om⟩
theorem az{a x:Operand}{t b off:Nat}{T:TypeId}(v:Value){cs cs':Array Value}{Hr:List SA}(ha:ev σ a= .pointer (some ⟨b,off,none⟩))(hx:ev σ x=v)[hp:qC b H (.cells cs T (0,0)) Hr][hput:bD cs off v cs'][ho:One v]
   [ht:nT P t](h:K undef (aF b (.cells cs' T (0,0))::Hr)):Ef P w0 H σ ⟨d,.store t a x,ty,pos,aft,g⟩ K:=
 CJ (n:=1) v ha hx (by rw[cells_one ho.ok];rfl) (by rw[cells_one ho.ok];simp[ho.ok]) ahx h
theorem gV{a x:Operand}{t b off n:Nat}{T:TypeId}{vs cs cs':Array Value}{Hr:List SA}(ha:ev σ a= .pointer (some ⟨b,off,none⟩))(hx:ev σ x= .agg vs)[hp:qC b H (.cells cs T (0,0)) Hr][hput:bD cs off (.agg vs) cs'][hc:Cells vs n]
   [ht:oI P t n](h:K undef (aF b (.cells cs' T (0,0))::Hr)):Ef P w0 H σ ⟨d,.store t a x,ty,pos,aft,g⟩ K:=
 CJ (n:=n) _ ha hx hc.size hc.one ahx h
theorem tj{s x:Operand}{t e sz bytes m:Nat}{i:TypeInfo}{z:Value}(sv xv:Value){xs news:List Value}{Hr:List SA}(hs:ev σ s=sv)(hx:ev σ x=xv)(hr:∀w,St w0 H w->St w0 (row sv e sz xs::Hr) w)(hn:∀w,St w0 H w->cY w xv sz news)
   (ht:P.underlying t=some (.slice e))(hi:P.info? e=some i)(hz:i.zero=some z)(hsz:i.size=sz)(hby:i.bytes=bytes)(hzs:z.cells.size=sz)(hpos:0<sz)
   (hm:news.length=m*sz)(h1:∀u∈news,u.oneCell'=true)(h63:xs.length+news.length<=281474976710656)(hb:(xs.length+news.length)*bytes<=140737488355328)
   (h:∀v',K v' (row v' e sz (xs++news)::Hr)):Ef P w0 H σ ⟨d,.call ⟨.builtin .append,#[s,x],#[t,t]⟩,ty,pos,aft,g⟩ K:=fun w hw=>by
 obtain⟨v',w',hrun,hw'⟩:=xk (ty:=ty) ht hi hz hsz hby hzs hpos (hr w hw) (hn w hw) hm h1 h63 hb;have:(execOp (ev σ) ⟨d,.call ⟨.builtin .append,#[s,x],#[t,t]⟩,ty,pos,aft,g⟩).run P w= .ok (.value v') w':=by
   simp[execOp,resolve,invoke,builtin,hs,hx,hrun]
 rw[this];exact⟨_,h v',hw'⟩
class jg(P:Program)(t:TypeId)(e sz bytes:outParam Nat):Prop where
 ht:P.underlying t=some (.slice e)
 hi:(match P.info? e with|some i=>i.size==sz&&i.bytes==bytes&&(match i.zero with|some z=>z.cells.size==sz|none=>false)|none=>false)=true
 pos:0<sz
theorem jg.spec{P:Program}{t e sz bytes:Nat}(h:jg P t e sz bytes):∃i z,P.info? e=some i/\i.zero=some z/\i.size=sz/\i.bytes=bytes/\z.cells.size=sz:=by
 have:=h.hi
 split at this
 · rename_i i hi
   simp only[Xz,beq_iff_eq]at this;obtain⟨⟨h1,h2⟩,h3⟩:=this
   split at h3
   · rename_i z hz;exact⟨i,z,hi,hz,h1,h2,by simpa using h3⟩
   · cases h3
 · cases this
class oy(v:Value)(H:List SA)(e sz:Nat)(xs:outParam (List Value))(Hr:outParam (List SA)):Prop where
 ok:hE (row v e sz xs::Hr) H∨(v= .slice none 0 0/\xs=[]/\hE Hr H)
theorem hE.both{x:SA}{H H':List SA}(h:hE H' H):hE (x::H') (x::H):=by
 obtain⟨l,hp,hs⟩:=h;exact⟨x::l,hp.cons x,hs.cons_cons x⟩
instance oy.tail{v:Value}{H Hr:List SA}{e sz:Nat}{xs:List Value}{x:SA}[h:oy v H e sz xs Hr]:oy v (x::H) e sz xs (x::Hr):=
 ⟨h.ok.imp hE.Fw fun⟨h1,h2,h3⟩=>⟨h1,h2,h3.both⟩⟩
instance oy.head{v:Value}{H:List SA}{e sz:Nat}{xs:List Value}:oy v (row v e sz xs::H) e sz xs H:=⟨.inl (.refl _)⟩
instance (priority:=high) oy.nil{H:List SA}{e sz:Nat}:oy (.slice none 0 0) H e sz [] H:=⟨.inr ⟨rfl,rfl,.refl _⟩⟩
theorem oy.st{v:Value}{H Hr:List SA}{e sz:Nat}{xs:List Value}(h:oy v H e sz xs Hr){w0 w:World}(hw:St w0 H w):St w0 (row v e sz xs::Hr) w:=by
 rcases h.ok with h1|⟨rfl,rfl,h1⟩
 · exact hw.sub h1
 · exact(hw.sub h1).cT e sz
class mY(v:Value)(H:List SA)(e:Nat)(l:outParam (List UInt8))(Hr:outParam (List SA)):Prop where
 ok:hE (row v e 1 (aE l)::Hr) H∨(v= .slice none 0 0/\l=[]/\hE Hr H)
instance mY.tail{v:Value}{H Hr:List SA}{e:Nat}{l:List UInt8}{x:SA}[h:mY v H e l Hr]:mY v (x::H) e l (x::Hr):=
 ⟨h.ok.imp hE.Fw fun⟨h1,h2,h3⟩=>⟨h1,h2,h3.both⟩⟩
instance mY.head{v:Value}{H:List SA}{e:Nat}{l:List UInt8}:mY v (row v e 1 (aE l)::H) e l H:=⟨.inl (.refl _)⟩
instance (priority:=high) mY.nil{H:List SA}{e:Nat}:mY (.slice none 0 0) H e [] H:=⟨.inr ⟨rfl,rfl,.refl _⟩⟩
theorem mY.st{v:Value}{H Hr:List SA}{e:Nat}{l:List UInt8}(h:mY v H e l Hr){w0 w:World}(hw:St w0 H w):St w0 (row v e 1 (aE l)::Hr) w:=by
 rcases h.ok with h1|⟨rfl,rfl,h1⟩
 · exact hw.sub h1
 · exact(hw.sub h1).cT e 1
theorem St.cP{w0 w:World}{H:List SA}(e:TypeId)(h:St w0 H w):St w0 (row (.slice none ([]:List UInt8).length 0) e 1 (aE [])::H) w:=h.cT e 1
theorem St.AK{w0 w:World}{H:List SA}(e:TypeId)(h:St w0 H w):St w0 (row (.slice none ([]:List Value).length 0) e 1 []::H) w:=h.cT e 1
theorem BL{v:Value}{e:TypeId}{xs:List Value}{w0 w:World}{H:List SA}(h:St w0 (row v e 1 xs::H) w):∃a c,v= .slice a xs.length c:=by
 obtain⟨a,n,c,hv,hl,-⟩:=h.holds (row v e 1 xs) sm;exact⟨a,c,by rw[hv,hl,Yp]⟩
theorem Ef.mono{o:Oper}{K K':Value->List SA->Prop}(h:Ef P w0 H σ o K)(hk:∀v H' w,K v H'->St w0 H' w->∃H'',K' v H''/\St w0 H'' w):Ef P w0 H σ o K':=fun w hw=>by
 have h1:=h w hw
 revert h1
 generalize (execOp (ev σ) o).run P w=r;cases r with
 |halt _ _=>exact id
 |ok nx w'=>
   cases nx<;>simp only[upon]<;>try exact id
   case value v=>exact fun⟨H',h1,h2⟩=>hk _ _ _ h1 h2
   case skip=>exact fun⟨H',h1,h2⟩=>hk _ _ _ h1 h2
   case enter f args=>exact fun hc=>hc.mono fun e w'' ⟨v,he,H',h1,h2⟩=>⟨v,he,hk _ _ _ h1 h2⟩
theorem js{s x:Operand}{t e bytes:Nat}{sv xv:Value}{xs news:List Value}{Hr:List SA}(hs:ev σ s=sv)(hx:ev σ x=xv)[ht:jg P t e 1 bytes][hr:oy sv H e 1 xs Hr][hn:gy w0 H xv 1 news]
   (h1:∀u∈news,u.oneCell'=true)(hb:xs.length+news.length<=4294967296)(hby:Nat.ble bytes 32768=true)
   (h:∀a c,K (.slice a (xs++news).length c) (row (.slice a (xs++news).length c) e 1 (xs++news)::Hr)):Ef P w0 H σ ⟨d,.call ⟨.builtin .append,#[s,x],#[t,t]⟩,ty,pos,aft,g⟩ K:=by
 obtain⟨i,z,hi,hz,hsz,hby',hzs⟩:=ht.spec;have hby2:=XL hby;refine(tj (K:=fun v H'=>H'=row v e 1 (xs++news)::Hr) (m:=news.length) sv xv hs hx (fun w hw=>hr.st hw) hn.rd ht.ht hi hz hsz hby' hzs ht.pos sm h1 om ?_ (fun _=>rfl)).mono ?_
 · calc (xs.length+news.length)*bytes<=4294967296*32768:=Yz hb hby2
     _<=140737488355328:=dc
 · intro v H' w hH hw
   subst hH;obtain⟨a,c,rfl⟩:=BL hw;exact⟨_,h a c,hw⟩
theorem xr(l l':List UInt8):aE l++aE l'=aE (l++l'):=by simp[aE]
@[simp] theorem jQ(l:List UInt8):(aE l).length=l.length:=by simp[aE]
theorem vq(l:List UInt8):∀u∈aE l,u.oneCell'=true:=by
 intro u hu;obtain⟨b,_,rfl⟩:=Xd.1 hu;rfl
theorem bR{s x:Operand}{t e bytes:Nat}{sv xv:Value}{l l':List UInt8}{Hr:List SA}(hs:ev σ s=sv)(hx:ev σ x=xv)[ht:jg P t e 1 bytes][hr:mY sv H e l Hr][hn:dT w0 H xv l']
   (hb:l.length+l'.length<=4294967296)(hby:Nat.ble bytes 32768=true)
   (h:∀a c,K (.slice a (l++l').length c) (row (.slice a (l++l').length c) e 1 (aE (l++l'))::Hr)):Ef P w0 H σ ⟨d,.call ⟨.builtin .append,#[s,x],#[t,t]⟩,ty,pos,aft,g⟩ K:=by
 obtain⟨i,z,hi,hz,hsz,hby',hzs⟩:=ht.spec;have hby2:=XL hby;refine(tj (K:=fun v H'=>H'=row v e 1 (aE l++aE l')::Hr) (m:=l'.length) sv xv hs hx (fun w hw=>hr.st hw) hn.rd ht.ht hi hz hsz hby' hzs ht.pos sm (vq l') so ?_ (fun _=>rfl)).mono ?_
 · calc ((aE l).length+(aE l').length)*bytes<=4294967296*32768:=Yz ad5 hby2
     _<=140737488355328:=dc
 · intro v H' w hH hw
   subst hH;rw[xr]at hw;obtain⟨a,c,rfl⟩:=BL hw;rw[jQ]at hw;exact⟨_,by simpa using h a c,hw⟩
def mm(x:Int):UInt8:=UInt8.ofNat x.toNat
theorem Dy{x:Int}(h0:0<=x)(h1:x<256):jM (mm x)= .int .u8 x:=by
 simp only[jM,mm]
 congr 1
 rw[Ye];omega
theorem ie(x:Int):0<=IntKind.u8.wrap x/\IntKind.u8.wrap x<256:=by
 simp[IntKind.wrap,IntKind.bits,IntKind.signed];omega
theorem gj{s x:Operand}{t e bytes:Nat}{sv xv:Value}{l:List UInt8}{n:Int}{Hr:List SA}(hs:ev σ s=sv)(hx:ev σ x=xv)[ht:jg P t e 1 bytes][hr:mY sv H e l Hr][hn:gy w0 H xv 1 [.int .u8 n]]
   (h0:0<=n/\n<256)(hb:l.length<=4294967295)(hby:Nat.ble bytes 32768=true)
   (h:∀a c,K (.slice a (l++[mm n]).length c) (row (.slice a (l++[mm n]).length c) e 1 (aE (l++[mm n]))::Hr)):Ef P w0 H σ ⟨d,.call ⟨.builtin .append,#[s,x],#[t,t]⟩,ty,pos,aft,g⟩ K:=by
 have hn':dT w0 H xv [mm n]:=⟨fun w hw=>by
   have:=hn.rd w hw;simp only[gN,aE,Xt,X6,Dy h0.1 h0.2];exact this⟩
 exact bR hs hx so hby h
theorem dH{x:Operand}{t e bytes:Nat}{v:Value}(hx:ev σ x=v)[ho:One v][hts:jg P t e 1 bytes]
   (h:∀a c,K (.slice a 1 c) (row (.slice a 1 c) e 1 [v]::H)):Ef P w0 H σ ⟨d,.buildSlice t 1 #[(0,x)],ty,pos,aft,g⟩ K:=fun w hw=>by
 obtain⟨i,z,hi,hz,hsz,-,hzs⟩:=hts.spec;have ht:=hts.ht;have hz':(P.info? e).bind (·.zero)=some z:=by simp[hi,hz]
 have hr:(execOp (ev σ) ⟨d,.buildSlice t 1 #[(0,x)],ty,pos,aft,g⟩).run P w= .ok (.value (.slice (some ⟨w.heap.size,0,none⟩) 1 1)) (w.alloc (.cells #[v] e)):=by
   have hc:=cells_one ho.ok;have hzz:z.cells.size%z.cells.size=0:=sm;have hrg:((Array.map (fun x=>z.cells[x%1]!) (Array.range 1)).setIfInBounds 0 v)= #[v]:=by
     apply XX sm;intro i h1 h2;have:i=0:=by simp at h2;omega
     subst this;simp
   simp[execOp,Instr.buildSlice,run_underlying ht,cC hi,hsz,fK hz',hx,Instr.fill,hc,hzs,newRow,World.alloc_eq,hrg]
 rw[hr];refine⟨_,h _ _,hw.fresh rfl rfl rfl sm (fun k hk=>heap_alloc_old w _ hk) ⟨_,_,_,rfl,sm,W8 _,by unfold maxLen;omega,sm,fun _=>⟨_,_,rfl,heap_alloc_new w _,sm,sm⟩⟩ aee aee⟩
theorem tb{t e sz bytes:Nat}[hts:jg P t e sz bytes]
   (h:∀a c,K (.slice a 0 c) (row (.slice a 0 c) e sz []::H)):Ef P w0 H σ ⟨d,.buildSlice t 0 #[],ty,pos,aft,g⟩ K:=fun w hw=>by
 obtain⟨i,z,hi,hz,hsz,-,hzs⟩:=hts.spec;have ht:=hts.ht;have hr:(execOp (ev σ) ⟨d,.buildSlice t 0 #[],ty,pos,aft,g⟩).run P w= .ok (.value (.slice (some ⟨w.heap.size,0,none⟩) 0 0)) (w.alloc (.cells #[] e)):=by
   have hrg:(Array.map (fun _=>(default:Value)) (Array.range 0))= #[]:=by apply XX<;>simp
   simp[hrg,execOp,Instr.buildSlice,run_underlying ht,cC hi,hsz,Instr.fill,newRow,World.alloc_eq]
 rw[hr];refine⟨_,h _ _,hw.fresh rfl rfl rfl sm (fun k hk=>heap_alloc_old w _ hk) ⟨_,_,_,rfl,sm,W8 _,by unfold maxLen;omega,sm,fun h=>absurd rfl h⟩ aee aee⟩
end
instance mY.Qu{v:Value}{H:List SA}{e:Nat}:mY v (row v e 1 []::H) e [] H:=⟨.inl (.refl _)⟩
def CT(P:Program)(w0:World)(H:List SA)(f:FuncId)(args:List Value){α:Type}(val:α->Value)(H':α->List SA):Prop:=
 ∀w,St w0 H w->Calls P f args.toArray w fun e w'=>∃x,e= .returned (val x)/\St w0 (H' x) w'
theorem FC{P:Program}{w0:World}{σ:Env}{H:List SA}{d:Option Nat}{ty:TypeId}{pos:String}{aft:Array Edge}{g:Option (Nat×Bool)}{K:Value->List SA->Prop}
   {f:FuncId}{args:List Operand}{ats:Array TypeId}{argv:List Value}{α:Type}{val:α->Value}{H':α->List SA}[hf:bk P f](hc:CT P w0 H f argv val H')(ha:args.map (ev σ)=argv)(h:∀x,K (val x) (H' x)):Ef P w0 H σ ⟨d,.call ⟨.value (.func f),args.toArray,ats⟩,ty,pos,aft,g⟩ K:=fun w hw=>by
 have hok:=hf.ok
 split at hok
 · rename_i fn hfn
   simp only[Xz,YO,beq_eq_false_iff_ne,ne_eq]at hok;obtain⟨h1,h2⟩:=hok;obtain⟨bd,hbd⟩:=XH.1 h2;have:(execOp (ev σ) ⟨d,.call ⟨.value (.func f),args.toArray,ats⟩,ty,pos,aft,g⟩).run P w= .ok (.enter f argv.toArray) w:=by
     subst ha;simp[execOp,resolve,invoke,ev,Deferred.ofValue,callFunc,hfn,h1,hbd]
   rw[this];refine(hc w hw).mono fun e w' ⟨x,he,hs⟩=>⟨val x,he,H' x,h x,hs⟩
 · cases hok
section
variable {P:Program} {n:Fr} {w0:World} {σ:Env} {H:List SA} {Q:iM}
theorem uP{all:Array Oper}{l:List Oper}(s:Nat){b:Bool}(hb:σ s= .bool b)(h1:b=true->TL P n w0 all l σ H Q)(h2:b=false->TL P n w0 all l σ H Q):TL P n w0 all l σ H Q:=by
 cases b
 · exact h2 rfl
 · exact h1 rfl
theorem oT{S:List SA}{ops:Array Oper}{r:List (Nat×Bool)}(s:Nat){b:Bool}(hb:σ s= .bool b)(h1:b=true->DL P n w0 S ops r σ H Q)(h2:b=false->DL P n w0 S ops r σ H Q):DL P n w0 S ops r σ H Q:=by
 cases b
 · exact h2 rfl
 · exact h1 rfl
theorem qu{ops:Array Oper}{a:Act}{j s:Nat}(ha:qA n a σ)(hs:(ops[j]?).bind (·.dst)=some s)(hb:σ s=undef):yielded ops a.tmps j=none:=by
 have hb':=ha.2.2 s;rw[hb]at hb';rcases X7 s a.tmps.size with hlt|hge
 · simp[Array.getD,hlt]at hb'
   simp[yielded,hs,hlt,hb',undef]
 · simp[yielded,hs,Array.getElem?_eq_none hge]
theorem C4{all:Array Oper}{rest:List Oper}{d j s:Nat}{want:Bool}{op:Op}{ty:TypeId}{pos:String}{aft:Array Edge}(hs:(all[j]?).bind (·.dst)=some s)(hb:σ s=undef)(hd:Nat.blt d n.n=true)
   (h:TL P n w0 all rest (mn σ d undef) H Q):TL P n w0 all (⟨some d,op,ty,pos,aft,some (j,want)⟩::rest) σ H Q:=fun a w ha hw=>by
 have h1:=h (a.put (some d) undef) w (ha.put hd) hw;have hy:=qu ha hs hb;simp only[wpList,Region.wanted,hy]at h1 ⊢;rw[if_neg sm];exact h1
theorem eI{S:List SA}{ops:Array Oper}{r:List (Nat×Bool)}{i d j s:Nat}{want:Bool}{op:Op}{ty:TypeId}{pos:String}{aft:Array Edge}(hns:Region.noSelect ops=true)(hi:ops[i]? =some ⟨some d,op,ty,pos,aft,some (j,want)⟩)(hs:(ops[j]?).bind (·.dst)=some s)(hb:σ s=undef)
   (hd:Nat.blt d n.n=true)(h:DL P n w0 S ops r (mn σ d undef) H Q):DL P n w0 S ops ((i,true)::r) σ H Q:=
 sq hns hi (fun a ha=> .inr ⟨by simp only[Region.wanted,qu ha hs hb];rfl,rfl⟩) (fun a ha=>ha.put hd) h
theorem LK{S:List SA}{ops:Array Oper}{r:List (Nat×Bool)}{i:Nat}{o:Oper}{σ':Env}(hi:ops[i]? =some o)(hnot:∀a,qA n a σ->Region.wanted o (yielded ops a.tmps)=false)
   (hput:∀a,qA n a σ->qA n (a.put o.dst undef) σ')(h:DL P n w0 S ops r σ' H Q):DL P n w0 S ops ((i,false)::r) σ H Q:=fun a w ha hw hS fuel listed hf hok=>by
 subst hf;simp only[qs,Xz,beq_iff_eq]at hok;refine wpAnyH_all hok.1 sm fun j hj=>?_;obtain rfl:j=i:=afE;unfold wpOp;simp only[hi,hnot a ha,Xm,if_false];exact⟨hS,h _ _ (hput a ha) hw hS _ _ rfl hok.2⟩
theorem BB{S:List SA}{ops:Array Oper}{r:List (Nat×Bool)}{i d j s:Nat}{want b:Bool}{op:Op}{ty:TypeId}{pos:String}{aft:Array Edge}(hi:ops[i]? =some ⟨some d,op,ty,pos,aft,some (j,want)⟩)(hs:(ops[j]?).bind (·.dst)=some s)(hb:σ s= .bool b)(hbw:b= !want)
   (hd:Nat.blt d n.n=true)(h:DL P n w0 S ops r (mn σ d undef) H Q):DL P n w0 S ops ((i,false)::r) σ H Q:=
 LK hi (fun a ha=>by simp only[Region.wanted,ou ha hs hb,hbw];cases want<;>rfl) (fun a ha=>ha.put hd) h
theorem im{S:List SA}{ops:Array Oper}{r:List (Nat×Bool)}{p:Prop}(h:p->DL P n w0 S ops r σ H Q):DL P n w0 S ops r σ (pu p::H) Q:=fun a w ha hw=>h hw.pure a w ha hw.tail
theorem gX{S H':List SA}{ops:Array Oper}{r:List (Nat×Bool)}(hs:∀w,St w0 H w->St w0 H' w)(h:DL P n w0 S ops r σ H' Q):DL P n w0 S ops r σ H Q:=fun a w ha hw=>h a w ha (hs w hw)
section
variable {S:List SA} {ops:Array Oper} {i d:Nat} {r:List (Nat×Bool)} {op:Op} {ty:TypeId} {pos:String} {aft:Array Edge} {gd:Nat×Bool}
theorem lF{j s:Nat}{want b:Bool}(hi:ops[i]? =some ⟨some d,op,ty,pos,aft,some (j,want)⟩)(hs:(ops[j]?).bind (·.dst)=some s)(hb:σ s= .bool b)(hbw:b=want)(hd:Nat.blt d n.n=true)
   (h:Ef P w0 H σ ⟨some d,op,ty,pos,aft,some (j,want)⟩ fun v H'=>(∀w,St w0 H' w->St w0 S w)/\DL P n w0 S ops r (mn σ d v) H' Q):DL P n w0 S ops ((i,false)::r) σ H Q:=
 Af hi (fun a ha=>by simp only[Region.wanted,ou ha hs hb,hbw,beq_self_eq_true]) (h.mono fun v H' w ⟨h1,h2⟩ hw=>⟨H',⟨h1,_,fun a ha=>ha.put hd,h2⟩,hw⟩)
end
end
def yq:Nat->List Value->Env->Env
 |_,[],σ=>σ
 |i,v::vs,σ=>yq (i+1) vs (mn σ i v)
theorem vg:∀(vs:List Value)(i:Nat)(σ:Env)(t:Nat),yq i vs σ t=if h:i<=t/\t<i+vs.length then vs[t-i]'om else σ t
 |[],i,σ,t=>by simp[yq];omega
 |v::vs,i,σ,t=>by
   rw[yq,vg vs (i+1) (mn σ i v) t];by_cases h:i+1<=t/\t<i+1+vs.length
   · rw[dif_pos h,dif_pos so]
     obtain⟨k,hk⟩:∃k,t-i=k+1:=⟨t-i-1,om⟩;have:t-(i+1)=k:=om;simp[hk,this]
   · rw[dif_neg h]
     by_cases e:t=i
     · subst e
       have:Nat.beq t t=true:=Nat.beq_refl t;simp[mn,this]
     · have:Nat.beq i t=false:=by
         cases hb:Nat.beq i t
         · rfl
         · exact absurd (YU hb).symm e
       simp only[mn,this,cond_false];rw[dif_neg so]
theorem Iw{n:Nat}{args:List Value}(h:args.length<=n):qA ⟨n,[]⟩ {tmps:=args.toArray++Array.replicate (n-args.toArray.size) undef,defers:=[]} (yq 0 args Mp):=by
 refine⟨so,rfl,fun t=>?_⟩;rw[vg];by_cases ht:t<args.length
 · rw[dif_pos ⟨Xv _,by simpa using ht⟩]
   simp[Array.getD,Array.getElem_append,ht];intro h';omega
 · rw[dif_neg so]
   simp only[Array.getD,Mp]
   split
   · show(args.toArray++Array.replicate (n-args.toArray.size) undef)[t]=undef
     rw[Array.getElem_append_right so];simp
   · rfl
def oR(P:Program)(w0:World)(H:List SA)(σ:Env):List ResultVar->List Value->Prop
 |[],[]=>True
 | .tmp t::rs,v::vs=>σ t=v/\oR P w0 H σ rs vs
 | .cell a t::rs,v::vs=>(∃ad,σ a= .pointer (some ad)/\∀w,St w0 H w->(loadVar t ad).run P w= .ok v w)/\oR P w0 H σ rs vs
 |_,_=>False
def JH:List Value->Value
 |[v]=>v
 |vs=> .tuple vs.toArray
def Ob(P:Program)(n:Fr)(w0:World)(fn:Func){α:Type}(val:α->Value)(H':α->List SA):iM:=fun e σ w=>match e with
 | .normal| .ret=>∃x,(∀a,qA n a σ->(results fn a.tmps).run P w= .ok (val x) w)/\St w0 (H' x) w
 |_=>False
def Iy(tmps:Array Value):ResultVar->Sem Value
 | .tmp t=>pure (tmps.getD t undef)
 | .cell a t=>do loadVar t (←asAddr (tmps.getD a undef))
theorem EM(fn:Func)(tmps:Array Value):results fn tmps=(do
 let vs ←fn.results.mapM (Iy tmps)
 pure (if h:vs.size=1 then vs[0]else .tuple vs)):=rfl
theorem oV{P:Program}{w0 w:World}{H:List SA}{σ:Env}(hw:St w0 H w){tmps:Array Value}(ht:∀t,tmps.getD t undef=σ t):∀(rs:List ResultVar)(vs:List Value),oR P w0 H σ rs vs->
   (rs.mapM (Iy tmps)).run P w= .ok vs w
 |[],[],_=>rfl
 | .tmp t::rs,v::vs,h=>by
   rw[List.mapM_cons];simp only[Sem.run_bind,oV hw ht rs vs h.2,Iy,Sem.run_pure,Result.andThen_ok,ht,h.1]
 | .cell a t::rs,v::vs,h=>by
   obtain⟨⟨ad,h1,h2⟩,h3⟩:=h;rw[List.mapM_cons];simp only[Sem.run_bind,oV hw ht rs vs h3,Iy,Sem.run_pure,Result.andThen_ok,ht,h1,asAddr,h2 w hw]
theorem Fu{P:Program}{n:Fr}{w0:World}{H:List SA}{σ:Env}{fn:Func}{α:Type}{val:α->Value}{H':α->List SA}{rs:List ResultVar}{e:Exit}(x:α)(vs:List Value)(hr:fn.results=rs.toArray)
   (hv:oR P w0 H σ rs vs)(hx:JH vs=val x)(hH:∀w,St w0 H w->St w0 (H' x) w)(he:e= .normal∨e= .ret:=by simp):X w0 e (Ob P n w0 fn val H') σ H:=fun w hw=>by
 have key:∃x,(∀a,qA n a σ->(results fn a.tmps).run P w= .ok (val x) w)/\St w0 (H' x) w:=by
   refine⟨x,fun a ha=>?_,hH w hw⟩;have h1:=oV hw ha.2.2 rs vs hv;have hlen:(rs.length=1->∃v,vs=[v])/\(rs.length≠1->vs.length≠1):=by
     have:∀(rs:List ResultVar)(vs:List Value),oR P w0 H σ rs vs->rs.length=vs.length:=by
       intro rs
       induction rs with
       |nil=>intro vs h;cases vs<;>simp_all [oR]
       |cons r rs ih=>intro vs h;cases vs with
         |nil=>cases r<;>simp[oR]at h
         |cons v vs=>cases r<;>simp[oR]at h<;>simp[ih vs h.2]
     have:=this rs vs hv;refine⟨fun h=>?_,fun h=>by omega⟩;rw[this]at h;exact List.length_eq_one_iff.1 h
   rw[←hx];have h2:(rs.toArray.mapM (Iy a.tmps)).run P w= .ok vs.toArray w:=by
     rw[List.mapM_toArray];simp only[Sem.run_map,h1,Result.andThen_ok]
   rw[EM,hr];simp only[Sem.run_bind,h2,Result.andThen_ok,Sem.run_pure]
   congr 1
   by_cases hl:vs.length=1
   · obtain⟨v,rfl⟩:=List.length_eq_one_iff.1 hl
     simp[JH]
   · simp only[X5,hl,dif_neg,not_false_eq_true]
     cases vs with
     |nil=>rfl
     |cons v vs=>cases vs with
       |nil=>simp at hl
       |cons u us=>rfl
 rcases he with rfl|rfl<;>exact key
theorem al{P:Program}{w0:World}{H:List SA}{f n:Nat}{args:List Value}{α:Type}{val:α->Value}{H':α->List SA}{fn:Func}{c:Code}(hf:P.funcs[f]? =some fn)(hb:fn.body=some c)(hn:fn.ntmps=n)(hl:Nat.ble args.length n=true)
   (h:T P ⟨n,[]⟩ w0 c (yq 0 args Mp) H (Ob P ⟨n,[]⟩ w0 fn val H')):CT P w0 H f args val H':=fun w hw=>by
 refine calls_of_wp hf hb ?_;have ha:=Iw (args:=args) (n:=n) (XL hl);rw[hn];refine wp_mono (h _ w ha hw) fun e a w' hq=>?_;cases e with
 |normal=>
   obtain⟨σ',h1,x,h2,h3⟩:=hq;exact aiG
 |ret=>
   obtain⟨σ',h1,x,h2,h3⟩:=hq;exact aiG
 |panic c=>exact hq.2.elim
 |outgrown=>exact hq.elim
 |exit j=>obtain⟨σ',_,h2⟩:=hq;exact h2.elim
 |goto j=>obtain⟨σ',_,h2⟩:=hq;exact h2.elim
def wk:List Nat->Nat->Bool
 |[],_=>false
 |s::ss,i=>bif Nat.beq s i then true else wk ss i
def mix(ws:List Nat)(τ σ:Env):Env:=fun i=>bif wk ws i then τ i else σ i
def qR:Env->List Nat->List Value->Env
 |σ,s::ss,v::vs=>qR (mn σ s v) ss vs
 |σ,_,_=>σ
def agree(ws:List Nat)(σ σ':Env):Prop:=∀i,wk ws i=false->σ' i=σ i
theorem gI{ws:List Nat}{σ:Env}:agree ws σ σ:=fun _ _=>rfl
theorem iQ{ws:List Nat}{σ σ':Env}{s:Nat}{v:Value}(hs:wk ws s=true)(h:agree ws σ σ'):agree ws σ (mn σ' s v):=fun i hi=>by
 have:Nat.beq s i=false:=by
   cases hb:Nat.beq s i
   · rfl
   · rw[YU hb,hi]at hs;cases hs
 simp only[mn,this,cond_false];exact h i hi
theorem jD{ws ws':List Nat}{σ σ' τ:Env}(hs:ws'.all (wk ws)=true)(h:agree ws σ σ'):agree ws σ (mix ws' τ σ'):=fun i hi=>by
 have:wk ws' i=false:=by
   have key:∀l:List Nat,l.all (wk ws)=true->wk l i=false:=by
     intro l
     induction l with
     |nil=>intro _;rfl
     |cons s ss ih=>
       intro hl;simp only[List.all_cons,Xz]at hl;have:Nat.beq s i=false:=by
         cases hb:Nat.beq s i
         · rfl
         · rw[YU hb,hi]at hl;exact absurd hl.1 sm
       simp only[wk,this,cond_false];exact ih hl.2
   exact key ws' hs
 simp only[mix,this,cond_false];exact h i hi
theorem fO{ws:List Nat}{σ σ':Env}:∀ {ss:List Nat}{vs:List Value},ss.all (wk ws)=true->agree ws σ σ'->agree ws σ (qR σ' ss vs)
 |[],_,_,h=>h
 |_::_,[],_,h=>h
 |s::ss,v::vs,hs,h=>by
   simp only[List.all_cons,Xz]at hs;exact fO (ss:=ss) (vs:=vs) hs.2 (iQ hs.1 h)
theorem vY{ws:List Nat}{σ σ':Env}(h:agree ws σ σ'):mix ws σ' σ=σ':=by
 funext i
 simp only[mix];cases hm:wk ws i
 · simp[h i hm]
 · simp
theorem Kr(σ:Env)(s:Nat):mn σ s (σ s)=σ:=by
 funext i
 simp only[mn];cases hb:Nat.beq s i
 · simp
 · simp[YU hb]
theorem mu(σ:Env):∀ss:List Nat,qR σ ss (ss.map σ)=σ
 |[]=>rfl
 |s::ss=>by simp only[Xt,qR,Kr,mu σ ss]
section
variable {P:Program} {n:Fr} {w0:World} {σ:Env} {H:List SA} {Q:iM}
theorem cu{all:Array Oper}{l:List Oper}(H':List SA)[hs:cJ H' H](h:TL P n w0 all l σ H' Q):TL P n w0 all l σ H Q:=ez hs.st h
def BW(w0:World)(σ0:Env)(ws aT:List Nat)(I:List Value->List SA->Prop)(μ:List Value->Nat)(m:Nat)(Q:iM):iM:=fun e σ w=>match e with
 | .normal=>agree ws σ0 σ/\∃H',I (aT.map σ) H'/\μ (aT.map σ)<m/\St w0 H' w
 |e=>Q e σ w
theorem bH{c:Code}{H0:List SA}(ws aT:List Nat)(I:List Value->List SA->Prop)(μ:List Value->Nat)(h0:I (aT.map σ) H0)(hH:∀w,St w0 H w->St w0 H0 w)
   (hr:∀τ vs H',I vs H'->vs.length=aT.length->T P n w0 c (qR (mix ws τ σ) aT vs) H' (BW w0 σ ws aT I μ (μ vs) Q)):T P n w0 (.loop c) σ H Q:=fun a w ha hw=>by
 refine wp_loop (fun a w=>∃σ',qA n a σ'/\agree ws σ σ'/\∃H',I (aT.map σ') H'/\St w0 H' w) (fun a _=>μ (aT.map fun s=>a.tmps.getD s undef)) ⟨σ,ha,gI,H0,h0,hH w hw⟩ ?_;rintro a w ⟨σ',h1,h2,H',h3,h4⟩;have e1:(aT.map fun s=>a.tmps.getD s undef)=aT.map σ':=YD fun s _=>h1.2.2 s;have hround:=hr σ' (aT.map σ') H' h3 sm;rw[vY h2,mu]at hround;refine wp_mono (hround a w h1 h4) fun e a' w' hq=>?_;cases e with
 |normal=>
   obtain⟨σ'',g1,g2,H'',g3,g4,g5⟩:=hq;have e2:(aT.map fun s=>a'.tmps.getD s undef)=aT.map σ'':=YD fun s _=>g1.2.2 s;refine⟨⟨σ'',g1,g2,H'',g3,g5⟩,?_⟩;rw[e1,e2];exact g4
 |_=>exact hq
theorem bW{σ0:Env}{ws aT:List Nat}{I:List Value->List SA->Prop}{μ:List Value->Nat}{m:Nat}(H':List SA)(ha:agree ws σ0 σ)(hI:I (aT.map σ) H')(hm:μ (aT.map σ)<m)(hH:∀w,St w0 H w->St w0 H' w):X w0 .normal (BW w0 σ0 ws aT I μ m Q) σ H:=fun w hw=>⟨ha,H',hI,hm,hH w hw⟩
theorem tW{σ0:Env}{ws aT:List Nat}{I:List Value->List SA->Prop}{μ:List Value->Nat}{m j:Nat}(h:X w0 (.exit j) Q σ H):X w0 (.exit j) (BW w0 σ0 ws aT I μ m Q) σ H:=h
theorem aW{σ0:Env}{ws aT:List Nat}{I:List Value->List SA->Prop}{μ:List Value->Nat}{m:Nat}(h:X w0 .ret Q σ H):X w0 .ret (BW w0 σ0 ws aT I μ m Q) σ H:=h
theorem wp_loop_ghost{c:Code}{Q:Exit->Act->World->Prop}{a:Act}{w:World}(J:Act->World->Nat->Prop)(m0:Nat)(h₀:J a w m0)
   (round:∀a w m,J a w m->c.wp P (Exit.then (fun a' w'=>∃m',m'<m/\J a' w' m') Q) a w):(Code.loop c).wp P Q a w:=by
 intro b k cs;have key:∀m a w,J a w m->∃e a' w',Q e a' w'/\Arrives P (lone (b.at a (.code c:: .inLoop c::k)) cs w) b k cs e a' w':=by
   intro m
   induction m using Nat.strongRecOn with
   |_ m ih=>
     intro a w hJ;obtain⟨e,a₁,w₁,hq,harr⟩:=round a w m hJ b (.inLoop c::k) cs;cases e with
     |normal=>
       obtain⟨m',hlt,hJ'⟩:=hq;obtain⟨e₂,a₂,w₂,hq₂,harr₂⟩:=ih m' hlt a₁ w₁ hJ';exact aeV
     |exit id=>exact⟨_,a₁,w₁,hq,.pass (x:= .inLoop c) rfl (fun _ _=> .inl sm) harr⟩
     |goto l=>exact⟨_,a₁,w₁,hq,.pass (x:= .inLoop c) rfl (fun _ _=> .inl sm) harr⟩
     |ret=>exact⟨_,a₁,w₁,hq,.pass (x:= .inLoop c) rfl (fun _ _=> .inl sm) harr⟩
     |panic ch=>exact⟨_,a₁,w₁,hq,.pass (x:= .inLoop c) rfl (fun _ _=> .inl sm) harr⟩
     |outgrown=>exact⟨_,a₁,w₁,hq,.pass (x:= .inLoop c) rfl (fun _ _=> .inl sm) harr⟩
 obtain⟨e,a',w',hq,harr⟩:=key _ a w h₀;exact ag9
def DO(w0:World)(σ0:Env)(ws aT:List Nat)(I:List Value->List SA->Nat->Prop)(m:Nat)(Q:iM):iM:=fun e σ w=>match e with
 | .normal=>agree ws σ0 σ/\∃H' m',I (aT.map σ) H' m'/\m'<m/\St w0 H' w
 |e=>Q e σ w
theorem qa{c:Code}{H0:List SA}{m0:Nat}(ws aT:List Nat)(I:List Value->List SA->Nat->Prop)(h0:I (aT.map σ) H0 m0)(hH:∀w,St w0 H w->St w0 H0 w)
   (hr:∀τ vs H' m,I vs H' m->vs.length=aT.length->T P n w0 c (qR (mix ws τ σ) aT vs) H' (DO w0 σ ws aT I m Q)):T P n w0 (.loop c) σ H Q:=fun a w ha hw=>by
 refine wp_loop_ghost (fun a w m=>∃σ',qA n a σ'/\agree ws σ σ'/\∃H',I (aT.map σ') H' m/\St w0 H' w) m0 ⟨σ,ha,gI,H0,h0,hH w hw⟩ ?_;rintro a w m ⟨σ',h1,h2,H',h3,h4⟩;have hround:=hr σ' (aT.map σ') H' m h3 sm;rw[vY h2,mu]at hround;refine wp_mono (hround a w h1 h4) fun e a' w' hq=>?_;cases e with
 |normal=>
   obtain⟨σ'',g1,g2,H'',m',g3,g4,g5⟩:=hq;exact⟨m',g4,σ'',g1,g2,H'',g3,g5⟩
 |_=>exact hq
theorem qc{σ0:Env}{ws aT:List Nat}{I:List Value->List SA->Nat->Prop}{m m':Nat}(H':List SA)(ha:agree ws σ0 σ)(hI:I (aT.map σ) H' m')(hm:m'<m)(hH:∀w,St w0 H w->St w0 H' w):X w0 .normal (DO w0 σ0 ws aT I m Q) σ H:=fun w hw=>⟨ha,H',m',hI,hm,hH w hw⟩
theorem iI{σ0:Env}{ws aT:List Nat}{I:List Value->List SA->Nat->Prop}{m j:Nat}(h:X w0 (.exit j) Q σ H):X w0 (.exit j) (DO w0 σ0 ws aT I m Q) σ H:=h
def O6(w0:World)(σ0:Env)(ws aT:List Nat)(J:List Value->List SA->Prop)(Q:iM):iM:=fun e σ w=>match e with
 | .normal=>agree ws σ0 σ/\∃H',J (aT.map σ) H'/\St w0 H' w
 |e=>Q e σ w
theorem kT{c y:Code}(ws aT:List Nat)(J:List Value->List SA->Prop)(hc:T P n w0 c σ H (O6 w0 σ ws aT J Q))
   (hr:∀τ vs H',J vs H'->vs.length=aT.length->T P n w0 y (qR (mix ws τ σ) aT vs) H' Q):T P n w0 (.seq c y) σ H Q:=fun a w ha hw=>by
 refine wp_seq (wp_mono (hc a w ha hw) fun e a' w' hq=>?_);cases e with
 |normal=>
   obtain⟨σ',g1,g2,H',g3,g4⟩:=hq;have:=hr σ' (aT.map σ') H' g3 sm;rw[vY g2,mu]at this;exact this a' w' g1 g4
 |_=>exact hq
theorem dU{σ0:Env}{ws aT:List Nat}{J:List Value->List SA->Prop}(H':List SA)(ha:agree ws σ0 σ)(hJ:J (aT.map σ) H')(hH:∀w,St w0 H w->St w0 H' w):X w0 .normal (O6 w0 σ0 ws aT J Q) σ H:=fun w hw=>⟨ha,H',hJ,hH w hw⟩
end
end Go.Sx
end
