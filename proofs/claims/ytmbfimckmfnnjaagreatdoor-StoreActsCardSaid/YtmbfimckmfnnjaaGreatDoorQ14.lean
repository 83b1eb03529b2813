/- Steps of the proof of a law. -/
import Derived.Test.YtmbfimckmfnnjaaGreatDoorQ06
import Derived.Test.YtmbfimckmfnnjaaGreatDoorQ07
import Derived.Laws.Externs
import Derived.MapKept
set_option maxRecDepth 100000
set_option maxHeartbeats 1000000
set_option linter.unusedSimpArgs false
set_option linter.unusedVariables false
section
namespace Go.Sx
open Go.RowKit
section
variable {P:Program} {n:Fr} {w0:World} {σ:Env} {H:List SA} {Q:iM} {d:Option Nat} {ty:TypeId} {pos:String} {aft:Array Edge} {g:Option (Nat×Bool)}
theorem xg{x:Operand}{t:TypeId}{v:Value}{K E:TypeId}(hx:ev σ x=v)(ht:P.underlying t=some (.map K E)):Qt P w0 H σ ⟨d,.makeInterface t x,ty,pos,aft,g⟩ (.iface t v):=fun w _=>by
 simp only[execOp,hx,Instr.makeInterface,Sem.run_bind,run_underlying ht,Result.andThen_ok,Sem.run_pure]
theorem AD{x:Operand}{xt at_:TypeId}{v:Value}{K E:TypeId}(hx:ev σ x= .iface at_ v)(ht:P.underlying at_=some (.map K E)):Qt P w0 H σ ⟨d,.typeAssert x xt at_ false,ty,pos,aft,g⟩ v:=fun w _=>by
 simp[execOp,hx,Instr.typeAssert,run_underlying ht]
theorem zO{κ ν:Type}[DecidableEq κ]{enc:κ->Value}{ev:ν->Value}{x:Operand}{f:FuncId}{fn:Func}{ats:Array TypeId}{t:TypeId}{r c:Nat}{es:List (iK κ ν)}{K:Value->List SA->Prop}(hx:Sx.ev σ x= .iface t (.map (some r)))
   (hf:P.funcs[f]? =some fn)(hname:(fn.name== "runtime.NumGoroutine")=false)(hb:fn.body.isNone=true)(hn:Extern.findNext fn=none)(he:Extern.find fn=some Extern.MapsClone.clone)
   [hm:Mem w0 H r (cF enc ev es c)](h:∀q,K (.iface t (.map (some q))) (aF q (cF enc ev es c)::H)):Ef P w0 H σ ⟨d,.call ⟨.value (.func f),#[x],ats⟩,ty,pos,aft,g⟩ K:=fun w hw=>by
 have hg:=gE (P:=P) (hm.get w hw);have hcl:(Extern.MapsClone.clone #[.iface t (.map (some r))]).run P w= .ok (.iface t (.map (some w.heap.size))) (w.alloc (cF enc ev es c)):=by
   have e:Extern.MapsClone.clone #[.iface t (.map (some r))]=(getObj r>>=fun o=>match o with
       | .map entries clock=>(newObj (.map entries clock)>>=fun n=>pure (.iface t (.map (some n))))
       |_=>stuck "maps.clone: a map expected"):=rfl
   rw[e];simp only[Sem.run_bind,hg,Result.andThen_ok,run_newObj,Sem.run_pure];rfl
 have hrun:=run_callFunc_extern (P:=P) hf hname hb hn he #[.iface t (.map (some r))] w;rw[hcl]at hrun;have:(execOp (Sx.ev σ) ⟨d,.call ⟨.value (.func f),#[x],ats⟩,ty,pos,aft,g⟩).run P w= .ok (.value (.iface t (.map (some w.heap.size)))) (w.alloc (cF enc ev es c)):=by
   have hxf:Sx.ev σ (.func f)= .func (.func f) #[] #[]:=rfl;simp only[execOp,resolve,hxf,Deferred.ofValue,Y6,Xt,X6,hx,Sem.run_bind,Sem.run_pure,Result.andThen_ok,invoke];simpa using hrun
 rw[this];exact⟨_,h _,hw.alloc _⟩
theorem ED{x y:Operand}{t t' K E:TypeId}{p:Option Nat}(hx:Sx.ev σ x= .map p)(hy:Sx.ev σ y= .map none)(ht:P.underlying t=some (.map K E)):Qt P w0 H σ ⟨d,.binOp .eql t x y t',ty,pos,aft,g⟩ (.bool p.isNone):=fun w _=>by
 have h1:(eqGuard .eql t x y (.map p) (.map none)).run P w= .ok () w:=by rfl
 have h2:(binOp .eql t (.map p) (.map none))=(do pure (.bool (←Op.equalIn (9999+1) t (.map p) (.map none)))):=by rfl
 have h3:(Op.equalIn (9999+1) t (.map p) (.map none)).run P w= .ok p.isNone w:=by
   have h:∀n,(Op.equalIn (n+1) t (.map p) (.map none)).run P w= .ok p.isNone w:=fun n=>by cases p<;>simp[Op.equalIn,run_underlying ht]
   exact h 9999
 simp only[execOp,hx,hy,Sem.run_bind,h1,h2,Result.andThen_ok,h3,Sem.run_pure]
theorem B1(a b:ByteArray):(a==b)=true↔a=b:=MapKept.bytes_beq a b
end
end Go.Sx
end
namespace Go.Proofs.YtmbfimckmfnnjaaGreatDoor
open Go.RowKit Go.Sx Go.Proofs.Tryz
def eW(x:Int):Nat:=if x<0 then(2*(-(x+1))+1).toNat else(2*x).toNat
variable {x:Int} {w0:World} {H:List SA} {k:Nat} {l:List UInt8}
theorem jj(h: -9223372036854775808<=x/\x<=9223372036854775807):eW x<18446744073709551616:=by
 unfold eW;split<;>omega
theorem iJ(h:0<=x)(h2:x<18446744073709551616):IntKind.u64.wrap x=x:=by
 simp[IntKind.wrap,IntKind.bits,IntKind.signed];omega
theorem Ko(h: -9223372036854775808<=x)(hx:x<0):IntKind.u64.wrap (IntKind.u64.wrap (2*IntKind.u64.wrap (IntKind.i64.wrap (0-IntKind.i64.wrap (x+1))))+1)=(eW x:Int):=by
 have e:eW x=(2*(-(x+1))+1).toNat:=if_pos hx;have e1:IntKind.i64.wrap (x+1)=x+1:=abS;have e2:IntKind.i64.wrap (0-(x+1))= -(x+1):=abS;rw[e1,e2,iJ (x:= -(x+1)) om om,iJ (x:=2* -(x+1)) om om,iJ om om,e];omega
theorem J5(h:x<=9223372036854775807)(hx:¬x<0):IntKind.u64.wrap (2*IntKind.u64.wrap x)=(eW x:Int):=by
 have e:eW x=(2*x).toNat:=if_neg hx;rw[iJ (x:=x) om om,iJ om om,e];omega
theorem Ik(a:Nat)(h:a<18446744073709551616):a^^^18446744073709551615=18446744073709551615-a:=by
 have:=BitVec.toNat_not (x:=BitVec.ofNat 64 a);have h2:(BitVec.ofNat 64 a)^^^BitVec.allOnes 64= ~~~ BitVec.ofNat 64 a:=BitVec.xor_allOnes;have h3:=congrArg BitVec.toNat h2;rw[BitVec.toNat_xor,this]at h3;simp at h3;rw[XN h]at h3;exact h3
theorem Hs(h: -9223372036854775808<=x/\x<=9223372036854775807)(y z:Int)(hy:y=if x<0 then 2*x+18446744073709551616 else 2*x)(hz:z=if x<0 then 18446744073709551615 else 0):IntKind.u64.wrap ((BitVec.ofInt IntKind.u64.bits y^^^BitVec.ofInt IntKind.u64.bits z).toNat:Int)=(eW x:Int):=by
 have key:∀a b:Nat,a<18446744073709551616->b<18446744073709551616->((BitVec.ofInt IntKind.u64.bits (a:Int)^^^BitVec.ofInt IntKind.u64.bits (b:Int)).toNat)=a^^^b:=fun a b ha hb=>by
   show(BitVec.ofInt 64 (a:Int)^^^BitVec.ofInt 64 (b:Int)).toNat=a^^^b;rw[Ym,Ym,BitVec.toNat_xor,Yx,Yx,XN (by simpa using ha),XN ad5]
 by_cases hx:x<0
 · rw[if_pos hx]at hy hz
   obtain⟨a,ha⟩:=Xl (show 0<=y by omega);subst hz;rw[ha,show(18446744073709551615:Int)=((18446744073709551615:Nat):Int)from rfl,key a _ om om,Ik a om,iJ om om];have e:eW x=(2*(-(x+1))+1).toNat:=if_pos hx;rw[e];omega
 · rw[if_neg hx]at hy hz
   obtain⟨a,ha⟩:=Xl (show 0<=y by omega);subst hz;rw[ha,show(0:Int)=((0:Nat):Int)from rfl,key a _ om om,Nat.xor_zero,iJ om om];have e:eW x=(2*x).toNat:=if_neg hx;rw[e];omega
theorem yf(x:Nat):fixed x 1=[UInt8.ofNat (x%256)]:=by simp[fixed]
theorem IV(x:Int):fixed (IntKind.u64.wrap x).toNat 1=[mm (IntKind.u8.wrap x)]:=by
 rw[yf]
 congr 1
 simp only[mm,IntKind.wrap,IntKind.bits,IntKind.signed];apply YN.1;simp;omega
theorem fb(x:Int):0<=IntKind.u64.wrap x:=abS
theorem DI(x:Int):IntKind.u64.wrap x<18446744073709551616:=abS
theorem mz(l:List UInt8)(x:Int):fF l x 2=l++fixed x.toNat 2:=rfl
theorem hQ(l:List UInt8)(x:Int):fF l x 1=l++fixed x.toNat 1:=rfl
theorem NW(h: -9223372036854775808<=x/\x<=9223372036854775807):IntKind.u64.wrap (IntKind.u64.wrap x*2^min (1:Int).toNat IntKind.u64.bits)=if x<0 then 2*x+18446744073709551616 else 2*x:=by
 simp[IntKind.wrap,IntKind.bits,IntKind.signed];split<;>omega
theorem Nz(h: -9223372036854775808<=x/\x<=9223372036854775807):IntKind.u64.wrap (x.fdiv (2^min (63:Int).toNat IntKind.i64.bits))=if x<0 then 18446744073709551615 else 0:=by
 have e:(2:Int)^min (63:Int).toNat IntKind.i64.bits=9223372036854775808:=dc;rw[e,Int.fdiv_eq_ediv_of_nonneg _ dc]
 split
 · have:x/9223372036854775808= -1:=om
   rw[this];decide
 · have:x/9223372036854775808=0:=om
   rw[this];decide
theorem Nc(hx: -9223372036854775808<=x/\x<=9223372036854775807):CT prog w0 (H) 266 [.int .i64 x] (α:=Unit) (fun _=> .int .u64 (eW x:Int)) (fun _=>H):=by
 refine al func266 rfl ntmps266 rfl (gG ?_);refine zq (bV rfl rfl underlying58) rfl (zq (EN rfl rfl om) rfl ?_);refine gG ?_;refine zq (Eo rfl rfl om) rfl (zq (bV rfl rfl underlying58) rfl (zq (D9 rfl rfl) rfl ?_));refine gG ?_;exact zX () [.int .u64 (eW x:Int)] results266 ⟨congrArg (Value.int .u64) (Hs hx _ _ (NW hx) (Nz hx)),trivial⟩ rfl SB
theorem oZ{a:Option Addr}{c:Nat}[hr:dT w0 H (.slice a l.length c) l](hl:l.length<=4294967200)(hx: -9223372036854775808<=x/\x<=9223372036854775807):CT prog w0 (H) 233 [.slice a l.length c,.int .i64 x] (α:=AC) (fun y=> .slice y.a (l++packed (eW x)).length y.c) (fun y=>row (.slice y.a (l++packed (eW x)).length y.c) 5 1 (aE (l++packed (eW x)))::H):=by
 refine al func233 rfl ntmps233 rfl (gG ?_);refine ze rfl (zc (Nc hx) rfl (fun x7=>?_));refine ze rfl (zc (kj (x:=(eW x:Int)) hl om (by have:=jj hx;omega)) rfl (fun x8=>?_));rw[XA];refine gG ?_;exact zX ⟨x8.a,x8.c⟩ [_] results233 ⟨rfl,trivial⟩ rfl SB
theorem CT.mono{P:Program}{f:FuncId}{args:List Value}{α β:Type}{val:α->Value}{H':α->List SA}{val2:β->Value}{H2:β->List SA}(h:CT P w0 H f args val H')
   (g:∀x w,St w0 (H' x) w->∃y,val x=val2 y/\St w0 (H2 y) w):CT P w0 H f args val2 H2:=fun w hw=>
 (h w hw).mono fun _ w' ⟨x,he,hs⟩=>let ⟨y,h1,h2⟩:=g x w' hs;⟨y,by rw[he,h1],h2⟩
def N5(l:List UInt8)(k:Nat)(y:UInt8×Nat×Int):Prop:=(k<l.length/\y.1=l.getD k 0/\y.2.1=k+1/\y.2.2=0)∨(l.length<=k/\y.1=0/\y.2.1=k/\y.2.2=1)
theorem oN(h:k<l.length):bx (l.drop k) 1=(0,(l.getD k 0).toNat,1):=by
 unfold bx;have e:(l.drop k).take 1=[l[k]]:=by rw[Xu h];rfl
 rw[if_neg dc,if_neg so,show(1:Int).toNat=1 from rfl,e,Xy,WW h];simp[si]
theorem pn(h:l.length<=k):bx (l.drop k) 1=(1,0,0):=by
 unfold bx;rw[if_neg dc,if_pos so]
theorem kL{p:Nat}{b:BS}[rb:dT w0 H (.slice b.a b.l.length b.c) b.l](hk:k<=b.l.length)(hl:b.l.length<=4294967296):CT prog w0 (aF p (.cells (bf.mk b (k:Int)).cells 192 (0,0))::H) 112 [.pointer (some ⟨p,0,none⟩),.int .i64 1] (α:=UInt8×Nat×Int) (fun y=> .tuple #[.int .u64 (y.1.toNat:Int),.int .i64 y.2.2]) (fun y=>pu (N5 b.l k y)::aF p (.cells (bf.mk b (y.2.1:Int)).cells 192 (0,0))::H):=by
 refine CT.mono (jW (rb:=rb) hk hl (n:=1)) (fun x w hw=>?_);by_cases hlt:k<b.l.length
 · rw[oN hlt]at hw ⊢
   exact⟨(b.l.getD k 0,k+1,0),rfl,St.aC hw (.inl ⟨hlt,rfl,rfl,rfl⟩)⟩
 · rw[pn om]at hw ⊢
   exact⟨(0,k,1),rfl,St.aC hw (.inr ⟨om,rfl,rfl,rfl⟩)⟩
def dj(x:Nat):Int:=if x%2=1 then -((x/2:Nat):Int)-1 else((x/2:Nat):Int)
theorem k7{x:Nat}(h:x<18446744073709551616): -9223372036854775808<=dj x/\dj x<=9223372036854775807:=by
 unfold dj;split<;>omega
theorem Gf(x:Nat):IntKind.i64.wrap (0-((x%2:Nat):Int))= -((x%2:Nat):Int):=by
 simp[IntKind.wrap,IntKind.bits,IntKind.signed];omega
theorem Bo{x:Nat}(h:x<18446744073709551616):IntKind.i64.wrap ((BitVec.ofInt IntKind.i64.bits ((x/2:Nat):Int)^^^BitVec.ofInt IntKind.i64.bits (-((x%2:Nat):Int))).toNat:Int)=dj x:=by
 show IntKind.i64.wrap ((BitVec.ofInt 64 ((x/2:Nat):Int)^^^BitVec.ofInt 64 (-((x%2:Nat):Int))).toNat:Int)=dj x;unfold dj;rcases Nat.mod_two_eq_zero_or_one x with h2|h2
 · rw[h2,if_neg dc,show BitVec.ofInt 64 (-((0:Nat):Int))=0#64 from by decide,BitVec.xor_zero,Ym,Yx,XN om]
   simp[IntKind.wrap,IntKind.bits,IntKind.signed];omega
 · rw[h2,if_pos rfl,show BitVec.ofInt 64 (-((1:Nat):Int))=BitVec.allOnes 64 from by decide,BitVec.xor_allOnes,BitVec.toNat_not,Ym,Yx,XN om]
   simp[IntKind.wrap,IntKind.bits,IntKind.signed];omega
theorem tO(h: -9223372036854775808<=x/\x<=9223372036854775807):dj (eW x)=x:=by
 unfold dj eW;split<;>split<;>omega
theorem HS{x:Nat}(hx:x<18446744073709551616):CT prog w0 (H) 244 [.int .u64 (x:Int)] (α:=Unit) (fun _=> .int .i64 (dj x)) (fun _=>H):=by
 refine al func244 rfl ntmps244 rfl (gG ?_);refine zq (pN 1 rfl rfl dc) rfl ?_;rw[show(2:Nat)^1=2 from rfl];refine zq (bF rfl rfl underlying2 om om) rfl ?_;refine gG ?_;refine zq (oh (b:=1) rfl rfl rfl (by show _<2^64;omega) dc) rfl ?_;rw[Nat.and_one_is_mod];refine zq (bF rfl rfl underlying2 om om) rfl (zq (bI (z7 rfl) (congrArg (Value.int .i64) (Gf x))) rfl (zq (bI (D9 rfl rfl) (congrArg (Value.int .i64) (Bo hx))) rfl ?_));refine gG ?_;exact zX () [.int .i64 (dj x)] results244 ⟨rfl,trivial⟩ rfl SB
theorem rm{p:Nat}{b:BS}[rb:dT w0 H (.slice b.a b.l.length b.c) b.l](hk:k<=b.l.length)(hl:b.l.length<=4294967296):CT prog w0 (aF p (.cells (bf.mk b (k:Int)).cells 192 (0,0))::H) 193 [.pointer (some ⟨p,0,none⟩)] (α:=Unit) (fun _=> .tuple #[.int .i64 (if (aq (b.l.drop k)).1=0 then dj (aq (b.l.drop k)).2.1 else 0),.int .i64 (aq (b.l.drop k)).1]) (fun _=>aF p (.cells (bf.mk b ((k+(aq (b.l.drop k)).2.2:Nat):Int)).cells 192 (0,0))::H):=by
 refine al func193 rfl ntmps193 rfl (gG ?_);refine ze rfl (zc (uZ hk hl) rfl (fun x8=>gG ?_));refine yC ?_ ?_<;>intro h12 p12<;>refine gG ?_
 ·have e:(aq (b.l.drop k)).1≠0:=p12;rw[if_neg e];exact agJ
 refine ze rfl (zc (HS (bT _).2.2) rfl (fun x15=>gG ?_));have e:(aq (b.l.drop k)).1=0:=om;rw[if_pos e,e];exact agJ
end Go.Proofs.YtmbfimckmfnnjaaGreatDoor
