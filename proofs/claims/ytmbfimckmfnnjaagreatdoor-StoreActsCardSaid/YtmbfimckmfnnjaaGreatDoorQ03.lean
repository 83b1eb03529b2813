/- Steps of the proof of a law. -/
import Derived.Test.YtmbfimckmfnnjaaGreatDoorQ02
set_option maxRecDepth 100000
set_option maxHeartbeats 1000000
set_option linter.unusedSimpArgs false
set_option linter.unusedVariables false
namespace Go.Sx
open Go.RowKit
class Cl(p:Prop)(q:outParam Prop):Prop where mp:p->q
theorem cL{p q:Prop}[c:Cl p q](h:p):q:=c.mp h
instance (priority:=low) WD{p:Prop}:Cl p p:=⟨id⟩
instance WQ{p q:Prop}{i:Decidable p}[c:Cl p q]:Cl (@decide p i=true) q:=⟨fun h=>c.mp (of_decide_eq_true h)⟩
instance Wy{p q:Prop}{i:Decidable p}[c:Cl (¬p) q]:Cl (@decide p i=false) q:=⟨fun h=>c.mp (of_decide_eq_false h)⟩
instance Wv{b:Bool}{q:Prop}[c:Cl (b=false) q]:Cl ((!b)=true) q:=⟨fun h=>c.mp afh⟩
instance Wp{b:Bool}{q:Prop}[c:Cl (b=true) q]:Cl ((!b)=false) q:=⟨fun h=>c.mp afh⟩
instance WJ{α:Type}{o:Option α}:Cl (o.isNone=true) (o=none):=⟨Option.isNone_iff_eq_none.1⟩
instance WE{p q:Prop}[c:Cl p q]:Cl (¬¬p) q:=⟨fun h=>c.mp (Classical.not_not.1 h)⟩
instance WK{a b:Int}:Cl (¬a<b) (b<=a):=⟨Int.not_lt.1⟩
instance WM{a b:Int}:Cl (¬a<=b) (b<a):=⟨Int.not_le.1⟩
instance WB{α:Type}{a b:α}{q:Prop}[c:Cl (¬¬a=b) q]:Cl (¬a≠b) q:=⟨fun h=>c.mp h⟩
instance UD{α:Type}{a b:α}:Cl (a≠b) (¬a=b):=⟨id⟩
section
variable {P:Program} {n:Fr} {w0:World} {σ:Env} {H S:List SA} {Q:iM} {all:Array Oper} {rest:List Oper} {op:Op} {d:Nat} {ty:TypeId} {pos:String} {aft:Array Edge}
theorem zA{ws:List Nat}{σ σ':Env}(h:agree ws σ σ':=by repeat (first|with_reducible exact gI|refine iQ rfl ?_|refine jD rfl ?_|refine fO rfl ?_)):agree ws σ σ':=h
theorem yC{c:Operand}{x y:Code}{b:Bool}{p q:Prop}[c1:Cl (b=true) p][c2:Cl (b=false) q](h1:b=true->p->T P n w0 x σ H Q)(h2:b=false->q->T P n w0 y σ H Q)(hc:ev σ c= .bool b:=by exact rfl):T P n w0 (.cond c x y) σ H Q:=qK hc (fun h=>h1 h (c1.mp h)) (fun h=>h2 h (c2.mp h))
theorem yS{l:List Oper}(s:Nat){b:Bool}{p q:Prop}[c1:Cl (b=true) p][c2:Cl (b=false) q](h1:b=true->p->TL P n w0 all l σ H Q)(h2:b=false->q->TL P n w0 all l σ H Q)(hb:σ s= .bool b:=by exact rfl):TL P n w0 all l σ H Q:=uP s hb (fun h=>h1 h (c1.mp h)) (fun h=>h2 h (c2.mp h))
theorem yD{ops:Array Oper}{r:List (Nat×Bool)}(s:Nat){b:Bool}{p q:Prop}[c1:Cl (b=true) p][c2:Cl (b=false) q](h1:b=true->p->DL P n w0 S ops r σ H Q)(h2:b=false->q->DL P n w0 S ops r σ H Q)(hb:σ s= .bool b:=by exact rfl):DL P n w0 S ops r σ H Q:=oT s hb (fun h=>h1 h (c1.mp h)) (fun h=>h2 h (c2.mp h))
theorem yM{x:Operand}{v:Value}(hx:ev σ x=v)(hh:TL P n w0 all rest (mn σ d v) H Q)(hd:Nat.blt d n.n=true):TL P n w0 all (⟨some d,.move x,ty,pos,aft,none⟩::rest) σ H Q:=cD (cg v hx) hd hh
theorem yN{x:Operand}{v:Value}(hx:ev σ x=v)(hh:TL P n w0 all rest (mn σ d v) H Q)(hd:Nat.blt d n.n=true):TL P n w0 all (⟨some d,.assign x,ty,pos,aft,none⟩::rest) σ H Q:=cD (dQ v hx) hd hh
theorem yF{x:Operand}{b o off s f:Nat}[hf:gv P s f off](off':Nat)(hx:ev σ x= .pointer (some ⟨b,o,none⟩))(ho:o+off=off')(hh:TL P n w0 all rest (mn σ d (.pointer (some ⟨b,off',none⟩))) H Q)(hd:Nat.blt d n.n=true):TL P n w0 all (⟨some d,.fieldAddr s x f,ty,pos,aft,none⟩::rest) σ H Q:=cD (kO off' hx ho) hd hh
theorem yP{x y:Operand}{t t':TypeId}{a b:Int}(hx:ev σ x= .int .i64 a)(hy:ev σ y= .int .i64 b)(hh:TL P n w0 all rest (mn σ d (.int .i64 (a+b))) H Q)(hd:Nat.blt d n.n=true:=by exact rfl)(h1: -9223372036854775808<=a+b:=by omega)(h2:a+b<=9223372036854775807:=by omega):TL P n w0 all (⟨some d,.binOp .add t x y t',ty,pos,aft,none⟩::rest) σ H Q:=cD (gh hx hy h1 h2) hd hh
theorem yU{x y:Operand}{t t':TypeId}{a b:Int}(hx:ev σ x= .int .i64 a)(hy:ev σ y= .int .i64 b)(hh:TL P n w0 all rest (mn σ d (.int .i64 (a-b))) H Q)(hd:Nat.blt d n.n=true:=by exact rfl)(h1: -9223372036854775808<=a-b:=by omega)(h2:a-b<=9223372036854775807:=by omega):TL P n w0 all (⟨some d,.binOp .sub t x y t',ty,pos,aft,none⟩::rest) σ H Q:=cD (jG hx hy h1 h2) hd hh
theorem Qp{c x y:Operand}{b:Bool}{v:Value}(hc:ev σ c= .bool b)(hb:b=true)(hx:ev σ x=v)(hh:TL P n w0 all rest (mn σ d v) H Q)(hd:Nat.blt d n.n=true):TL P n w0 all (⟨some d,.pick c x y,ty,pos,aft,none⟩::rest) σ H Q:=cD (jy v hc hb hx) hd hh
theorem Sa{c x y:Operand}{b:Bool}{v:Value}(hc:ev σ c= .bool b)(hb:b=false)(hx:ev σ y=v)(hh:TL P n w0 all rest (mn σ d v) H Q)(hd:Nat.blt d n.n=true):TL P n w0 all (⟨some d,.pick c x y,ty,pos,aft,none⟩::rest) σ H Q:=cD (kc v hc hb hx) hd hh
theorem yL{x:Operand}{t e sz bytes:Nat}{a:Option Addr}{m c:Nat}[ht:jg P t e sz bytes](hx:ev σ x= .slice a m c)(hh:TL P n w0 all rest (mn σ d (.int .i64 m)) H Q)(hd:Nat.blt d n.n=true):TL P n w0 all (⟨some d,.call ⟨.builtin .len,#[x],#[t]⟩,ty,pos,aft,none⟩::rest) σ H Q:=cD (lN hx ht.ht) hd hh
theorem gd{o:Op}{dst:Option Nat}{g:Option (Nat×Bool)}{e:Bool}(_:e=true)(h:TL P n w0 all (⟨dst,o,ty,pos,aft,g⟩::rest) σ H Q):TL P n w0 all (⟨dst,o,ty,pos,aft,g⟩::rest) σ H Q:=h
theorem gC{o:Oper}(h:TL P n w0 all (o::rest) σ H Q):TL P n w0 all (o::rest) σ H Q:=h
theorem P0{x:Operand}(h:TL P n w0 all (⟨some d,.move x,ty,pos,aft,none⟩::rest) σ H Q):TL P n w0 all (⟨some d,.move x,ty,pos,aft,none⟩::rest) σ H Q:=h
theorem Qo{x:Operand}(h:TL P n w0 all (⟨some d,.assign x,ty,pos,aft,none⟩::rest) σ H Q):TL P n w0 all (⟨some d,.assign x,ty,pos,aft,none⟩::rest) σ H Q:=h
theorem RI{x:Operand}{s f:Nat}(h:TL P n w0 all (⟨some d,.fieldAddr s x f,ty,pos,aft,none⟩::rest) σ H Q):TL P n w0 all (⟨some d,.fieldAddr s x f,ty,pos,aft,none⟩::rest) σ H Q:=h
theorem O4{c:Call}(h:TL P n w0 all (⟨some d,.call c,ty,pos,aft,none⟩::rest) σ H Q):TL P n w0 all (⟨some d,.call c,ty,pos,aft,none⟩::rest) σ H Q:=h
theorem gB(o:BinOp){t t':TypeId}{x y:Operand}(h:TL P n w0 all (⟨some d,.binOp o t x y t',ty,pos,aft,none⟩::rest) σ H Q):TL P n w0 all (⟨some d,.binOp o t x y t',ty,pos,aft,none⟩::rest) σ H Q:=h
theorem MV{t:TypeId}{x:Operand}(h:TL P n w0 all (⟨some d,.load t x,ty,pos,aft,none⟩::rest) σ H Q):TL P n w0 all (⟨some d,.load t x,ty,pos,aft,none⟩::rest) σ H Q:=h
theorem OK{x:Operand}(h:TL P n w0 all (⟨some d,.nilCheck x,ty,pos,aft,none⟩::rest) σ H Q):TL P n w0 all (⟨some d,.nilCheck x,ty,pos,aft,none⟩::rest) σ H Q:=h
theorem OM{x:Operand}{i:Nat}(h:TL P n w0 all (⟨some d,.extract x i,ty,pos,aft,none⟩::rest) σ H Q):TL P n w0 all (⟨some d,.extract x i,ty,pos,aft,none⟩::rest) σ H Q:=h
theorem Om{o:Op}{dst:Option Nat}{g:Nat×Bool}(h:TL P n w0 all (⟨dst,o,ty,pos,aft,some g⟩::rest) σ H Q):TL P n w0 all (⟨dst,o,ty,pos,aft,some g⟩::rest) σ H Q:=h
theorem OL{o:BinOp}{t t':TypeId}{x y:Operand}(h:TL P n w0 all (⟨some d,.binOp o t x y t',ty,pos,aft,none⟩::rest) σ H Q):TL P n w0 all (⟨some d,.binOp o t x y t',ty,pos,aft,none⟩::rest) σ H Q:=h
theorem Oy{o:UnOp}{t:TypeId}{x:Operand}(h:TL P n w0 all (⟨some d,.unOp o t x,ty,pos,aft,none⟩::rest) σ H Q):TL P n w0 all (⟨some d,.unOp o t x,ty,pos,aft,none⟩::rest) σ H Q:=h
theorem FO{c x y:Operand}(h:TL P n w0 all (⟨some d,.pick c x y,ty,pos,aft,none⟩::rest) σ H Q):TL P n w0 all (⟨some d,.pick c x y,ty,pos,aft,none⟩::rest) σ H Q:=h
theorem gG{A B:Prop}(h:B)(k:B->A:=by
 intro h
 (repeat (first
   |((with_reducible refine gC ?_);first|((with_reducible refine P0 ?_);(with_reducible apply yM);(case hx=>((conv=>lhs;whnf);try rfl));(case hd=>rfl))|((with_reducible refine Qo ?_);(with_reducible apply yN);(case hx=>((conv=>lhs;whnf);try rfl));(case hd=>rfl))|((with_reducible refine Om ?_);first|refine k4 rfl rfl abv rfl ?_|refine iZ rfl rfl abv ?_|refine C4 rfl rfl rfl ?_)|((with_reducible refine MV ?_);first|refine cD (mV rfl) rfl ?_|refine cD (pq rfl rfl) rfl ?_)|((with_reducible refine OK ?_);refine cD (aN rfl) rfl ?_)|((with_reducible refine OM ?_);refine cD (eo rfl) rfl ?_)|((with_reducible refine RI ?_);(with_reducible apply yF);(case hx=>rfl);(case hd=>rfl);(case ho=>first|exact(rfl:_=0)|exact(rfl:_=1)|exact(rfl:_=2)|exact(rfl:_=3)|exact(rfl:_=4)|exact(rfl:_=5)|exact(rfl:_=6)|exact(rfl:_=7)|exact(rfl:_=8)|exact(rfl:_=9)|exact(rfl:_=10)|exact(rfl:_=11)|exact(rfl:_=12)))|((with_reducible refine OL ?_);first|((with_reducible refine gB .lss ?_);refine cD (mL rfl rfl) rfl ?_)|((with_reducible refine gB .eql ?_);refine cD (ph rfl rfl) rfl ?_)|((with_reducible refine gB .neq ?_);refine cD (qU rfl rfl) rfl ?_)|((with_reducible refine gB .gtr ?_);refine cD (sU rfl rfl) rfl ?_)|((with_reducible refine gB .geq ?_);refine cD (zV rfl rfl) rfl ?_)|((with_reducible refine gB .leq ?_);refine cD (A3 rfl rfl) rfl ?_))|((with_reducible refine FO ?_);(with_reducible apply Sa);(case hc=>rfl);(case hb=>first|(clear h;assumption)|rfl);(case hx=>((conv=>lhs;whnf);try rfl));(case hd=>rfl))|((with_reducible refine FO ?_);(with_reducible apply Qp);(case hc=>rfl);(case hb=>first|(clear h;assumption)|rfl);(case hx=>((conv=>lhs;whnf);try rfl));(case hd=>rfl))|((with_reducible refine O4 ?_);(with_reducible apply yL);(case hx=>rfl);(case hd=>rfl))|((with_reducible refine Oy ?_);refine cD (tm rfl) rfl ?_))
   |with_reducible refine T4 ?_
   |with_reducible refine TX ?_
   |with_reducible refine S4 ?_
   |with_reducible refine T2 ?_
   |with_reducible refine eS ?_
   |with_reducible refine fJ ?_
   |with_reducible refine ey ?_
   |with_reducible refine jK ?_
   |with_reducible refine oe ?_
   |with_reducible refine xY ?_
   |with_reducible refine nD ?_
   |with_reducible refine sx ?_
   |with_reducible refine mv ?_
   |with_reducible refine oY ?_
   |with_reducible refine kh ?_
   |with_reducible refine jw ?_
   |with_reducible refine ti ?_))
 exact h):A:=k h
theorem aP{p:Prop}{H H':List SA}(hp:p)(h:∀w,St w0 H w->St w0 H' w):∀w,St w0 H w->St w0 (pu p::H') w:=fun w hw=>(h w hw).aC hp
theorem SC{H H':List SA}(h:hE H' H:=by repeat' (with_reducible first|exact hE.refl _|exact hE.nil _|refine hE.cons o6.sub ?_|refine hE.skip ?_)):∀w,St w0 H w->St w0 H' w:=fun _ hw=>hw.sub h
theorem yT{c:Operand}{x y:Code}{b:Bool}(h:T P n w0 x σ H Q)(hc:ev σ c= .bool b:=by exact rfl)(hb:b=true:=by first|rfl|decide):T P n w0 (.cond c x y) σ H Q:=aI hc hb h
theorem yE{c:Operand}{x y:Code}{b:Bool}(h:T P n w0 y σ H Q)(hc:ev σ c= .bool b:=by exact rfl)(hb:b=false:=by first|rfl|decide):T P n w0 (.cond c x y) σ H Q:=bM hc hb h
variable {ops:Array Oper} {i:Nat} {r:List (Nat×Bool)}
theorem S3(h:DL P n w0 S ops ((i,true)::r) σ H Q):DL P n w0 S ops ((i,true)::r) σ H Q:=h
theorem dK(o:Op){dd:Option Nat}{g:Option (Nat×Bool)}(hi:ops[i]? =some ⟨dd,o,ty,pos,aft,g⟩)(h:DL P n w0 S ops ((i,true)::r) σ H Q):DL P n w0 S ops ((i,true)::r) σ H Q:=h
theorem dM{x:Operand}{v:Value}(hns:Region.noSelect ops=true)(hi:ops[i]? =some ⟨some d,.move x,ty,pos,aft,none⟩)(hx:ev σ x=v)(hd:Nat.blt d n.n=true)(h:DL P n w0 S ops r (mn σ d v) H Q):DL P n w0 S ops ((i,true)::r) σ H Q:=jf hns hi (cg v hx) hd h
theorem dN{x:Operand}{v:Value}(hns:Region.noSelect ops=true)(hi:ops[i]? =some ⟨some d,.assign x,ty,pos,aft,none⟩)(hx:ev σ x=v)(hd:Nat.blt d n.n=true)(h:DL P n w0 S ops r (mn σ d v) H Q):DL P n w0 S ops ((i,true)::r) σ H Q:=jf hns hi (dQ v hx) hd h
theorem dG{x:Operand}{v:Value}{j s:Nat}{want b:Bool}(hns:Region.noSelect ops=true)(hi:ops[i]? =some ⟨some d,.move x,ty,pos,aft,some (j,want)⟩)(hs:(ops[j]?).bind (·.dst)=some s)(hb:σ s= .bool b)(hbw:b=want)(hx:ev σ x=v)(hd:Nat.blt d n.n=true)(h:DL P n w0 S ops r (mn σ d v) H Q):DL P n w0 S ops ((i,true)::r) σ H Q:=bB hns hi hs hb hbw (cg v hx) hd h
theorem T1{c x y:Operand}{b:Bool}{v:Value}(hns:Region.noSelect ops=true)(hi:ops[i]? =some ⟨some d,.pick c x y,ty,pos,aft,none⟩)(hc:ev σ c= .bool b)(hb:b=true)(hx:ev σ x=v)(hd:Nat.blt d n.n=true)(h:DL P n w0 S ops r (mn σ d v) H Q):DL P n w0 S ops ((i,true)::r) σ H Q:=jf hns hi (jy v hc hb hx) hd h
theorem UP{c x y:Operand}{b:Bool}{v:Value}(hns:Region.noSelect ops=true)(hi:ops[i]? =some ⟨some d,.pick c x y,ty,pos,aft,none⟩)(hc:ev σ c= .bool b)(hb:b=false)(hx:ev σ y=v)(hd:Nat.blt d n.n=true)(h:DL P n w0 S ops r (mn σ d v) H Q):DL P n w0 S ops ((i,true)::r) σ H Q:=jf hns hi (kc v hc hb hx) hd h
theorem dL{x:Operand}{t e sz bytes:Nat}{a:Option Addr}{m c:Nat}[ht:jg P t e sz bytes](hns:Region.noSelect ops=true)(hi:ops[i]? =some ⟨some d,.call ⟨.builtin .len,#[x],#[t]⟩,ty,pos,aft,none⟩)(hx:ev σ x= .slice a m c)(hd:Nat.blt d n.n=true)(h:DL P n w0 S ops r (mn σ d (.int .i64 m)) H Q):DL P n w0 S ops ((i,true)::r) σ H Q:=jf hns hi (lN hx ht.ht) hd h
theorem dF{x:Operand}{b o off s f:Nat}[hf:gv P s f off](off':Nat)(hns:Region.noSelect ops=true)(hi:ops[i]? =some ⟨some d,.fieldAddr s x f,ty,pos,aft,none⟩)(hx:ev σ x= .pointer (some ⟨b,o,none⟩))(ho:o+off=off')(hd:Nat.blt d n.n=true)(h:DL P n w0 S ops r (mn σ d (.pointer (some ⟨b,off',none⟩))) H Q):DL P n w0 S ops ((i,true)::r) σ H Q:=jf hns hi (kO off' hx ho) hd h
theorem dw{id:Nat}{l:List Oper}(S:List SA)(ord:List (Nat×Bool))(h:Region.noSelect l.toArray=true->DL P n w0 S l.toArray ord σ H Q)(hm:P.follows .mixedOrders=true:=by kernel_rfl)(hns:Region.noSelect l.toArray=true:=by kernel_rfl)(hlen:ord.length=l.length:=by exact rfl)(hok:qs l.toArray ord (Array.replicate l.length false)=true:=by kernel_rfl)(hS:∀w,St w0 H w->St w0 S w:=by exact SB):T P n w0 (.region id l.toArray true) σ H Q:=vC S ord hm hns hlen hok hS h
theorem dv{id:Nat}{l:List Oper}(ord:List (Nat×Bool))(h:Region.noSelect l.toArray=true->DL P n w0 H l.toArray ord σ H Q)(hm:P.follows .mixedOrders=true:=by kernel_rfl)(hns:Region.noSelect l.toArray=true:=by kernel_rfl)(hlen:ord.length=l.length:=by exact rfl)(hok:qs l.toArray ord (Array.replicate l.length false)=true:=by kernel_rfl):T P n w0 (.region id l.toArray true) σ H Q:=vC H ord hm hns hlen hok (fun _ h=>h) h
theorem xl{σ0:Env}{ws aT:List Nat}{I:List Value->List SA->Prop}{μ:List Value->Nat}{m:Nat}{H':List SA}(hI:I (aT.map σ) H')(ha:agree ws σ0 σ:=by repeat (first|with_reducible exact gI|refine iQ rfl ?_|refine jD rfl ?_|refine fO rfl ?_))(hm:μ (aT.map σ)<m:=by change _-Int.toNat _<_-Int.toNat _;omega)(hH:∀w,St w0 H w->St w0 H' w:=by exact SB):X w0 .normal (BW w0 σ0 ws aT I μ m Q) σ H:=bW H' ha hI hm hH
theorem gA{A B:Prop}(h:B)(k:B->A:=by
 intro h
 (repeat (first
   |((with_reducible refine gC ?_);first|((with_reducible refine P0 ?_);(with_reducible apply yM);(case hx=>((conv=>lhs;whnf);try rfl));(case hd=>rfl))|((with_reducible refine Qo ?_);(with_reducible apply yN);(case hx=>((conv=>lhs;whnf);try rfl));(case hd=>rfl))|((with_reducible refine Om ?_);first|refine k4 rfl rfl abv rfl ?_|refine iZ rfl rfl abv ?_|refine C4 rfl rfl rfl ?_)|((with_reducible refine MV ?_);first|refine cD (mV rfl) rfl ?_|refine cD (pq rfl rfl) rfl ?_)|((with_reducible refine OK ?_);refine cD (aN rfl) rfl ?_)|((with_reducible refine OM ?_);refine cD (eo rfl) rfl ?_)|((with_reducible refine RI ?_);(with_reducible apply yF);(case hx=>rfl);(case hd=>rfl);(case ho=>first|exact(rfl:_=0)|exact(rfl:_=1)|exact(rfl:_=2)|exact(rfl:_=3)|exact(rfl:_=4)|exact(rfl:_=5)|exact(rfl:_=6)|exact(rfl:_=7)|exact(rfl:_=8)|exact(rfl:_=9)|exact(rfl:_=10)|exact(rfl:_=11)|exact(rfl:_=12)))|((with_reducible refine OL ?_);first|((with_reducible refine gB .lss ?_);refine cD (mL rfl rfl) rfl ?_)|((with_reducible refine gB .eql ?_);refine cD (ph rfl rfl) rfl ?_)|((with_reducible refine gB .neq ?_);refine cD (qU rfl rfl) rfl ?_)|((with_reducible refine gB .gtr ?_);refine cD (sU rfl rfl) rfl ?_)|((with_reducible refine gB .geq ?_);refine cD (zV rfl rfl) rfl ?_)|((with_reducible refine gB .leq ?_);refine cD (A3 rfl rfl) rfl ?_)|((with_reducible refine gB .add ?_);first|refine yP rfl rfl ?_ rfl aeH aeH|refine cD (bU rfl rfl) rfl ?_)|((with_reducible refine gB .sub ?_);first|refine yU rfl rfl ?_ rfl aeH aeH|refine cD (iq rfl rfl) rfl ?_))|((with_reducible refine FO ?_);(with_reducible apply Sa);(case hc=>rfl);(case hb=>first|(clear h;assumption)|rfl);(case hx=>((conv=>lhs;whnf);try rfl));(case hd=>rfl))|((with_reducible refine FO ?_);(with_reducible apply Qp);(case hc=>rfl);(case hb=>first|(clear h;assumption)|rfl);(case hx=>((conv=>lhs;whnf);try rfl));(case hd=>rfl))|((with_reducible refine O4 ?_);(with_reducible apply yL);(case hx=>rfl);(case hd=>rfl))|((with_reducible refine Oy ?_);refine cD (tm rfl) rfl ?_))
   |with_reducible refine T4 ?_
   |with_reducible refine TX ?_
   |with_reducible refine S4 ?_
   |with_reducible refine T2 ?_
   |with_reducible refine eS ?_
   |with_reducible refine fJ ?_
   |with_reducible refine ey ?_
   |with_reducible refine jK ?_
   |((with_reducible apply S3);first|(apply dM abb rfl;(case hx=>((conv=>lhs;whnf);try rfl));(case hd=>rfl))|(apply dN abb rfl;(case hx=>((conv=>lhs;whnf);try rfl));(case hd=>rfl))|((refine dK (.load _ _) rfl ?_);refine jf abb rfl (pq rfl rfl) rfl ?_)|((refine dK (.load _ _) rfl ?_);refine jf abb rfl (mV rfl) rfl ?_)|refine br abb rfl rfl rfl abv rfl ?_|(apply dG abb rfl rfl rfl abv;(case hx=>((conv=>lhs;whnf);try rfl));(case hd=>rfl))|((refine dK (.binOp .eql _ _ _ _) rfl ?_);refine jf abb rfl (ph rfl rfl) rfl ?_)|((refine dK (.binOp .neq _ _ _ _) rfl ?_);refine jf abb rfl (qU rfl rfl) rfl ?_)|((refine dK (.binOp .lss _ _ _ _) rfl ?_);refine jf abb rfl (mL rfl rfl) rfl ?_)|((refine dK (.binOp .gtr _ _ _ _) rfl ?_);refine jf abb rfl (sU rfl rfl) rfl ?_)|((refine dK (.binOp .geq _ _ _ _) rfl ?_);refine jf abb rfl (zV rfl rfl) rfl ?_)|((refine dK (.binOp .leq _ _ _ _) rfl ?_);refine jf abb rfl (A3 rfl rfl) rfl ?_)|((refine dK (.unOp _ _ _) rfl ?_);refine jf abb rfl (tm rfl) rfl ?_)|((refine dK (.extract _ _) rfl ?_);refine jf abb rfl (eo rfl) rfl ?_)|refine dL abb rfl rfl rfl ?_|(apply dF _ abb rfl rfl;(case hd=>rfl);case ho=>first|exact(rfl:_=0)|exact(rfl:_=1)|exact(rfl:_=2)|exact(rfl:_=3)|exact(rfl:_=4)|exact(rfl:_=5)|exact(rfl:_=6)|exact(rfl:_=7)|exact(rfl:_=8)|exact(rfl:_=9))|refine eI abb rfl rfl rfl rfl ?_|(apply UP abb rfl rfl abv;(case hx=>((conv=>lhs;whnf);try rfl));(case hd=>rfl))|(apply T1 abb rfl rfl abv;(case hx=>((conv=>lhs;whnf);try rfl));(case hd=>rfl))|((refine dK (.binOp .add _ _ _ _) rfl ?_);refine jf abb rfl (gh rfl rfl aeH aeH) rfl ?_)|((refine dK (.binOp .add _ _ _ _) rfl ?_);refine jf abb rfl (bU rfl rfl) rfl ?_)|((refine dK (.binOp .sub _ _ _ _) rfl ?_);refine jf abb rfl (jG rfl rfl aeH aeH) rfl ?_)|((refine dK (.binOp .sub _ _ _ _) rfl ?_);refine jf abb rfl (iq rfl rfl) rfl ?_)|((refine dK (.nilCheck _) rfl ?_);refine jf abb rfl (aN rfl) rfl ?_)|((refine dK (.load _ _) rfl ?_);refine bB abb rfl rfl rfl abv (pq rfl rfl) rfl ?_)|((refine dK (.load _ _) rfl ?_);refine bB abb rfl rfl rfl abv (mV rfl) rfl ?_)|((refine dK (.binOp .eql _ _ _ _) rfl ?_);refine bB abb rfl rfl rfl abv (ph rfl rfl) rfl ?_)|((refine dK (.binOp .neq _ _ _ _) rfl ?_);refine bB abb rfl rfl rfl abv (qU rfl rfl) rfl ?_)|((refine dK (.binOp .lss _ _ _ _) rfl ?_);refine bB abb rfl rfl rfl abv (mL rfl rfl) rfl ?_)|((refine dK (.binOp .gtr _ _ _ _) rfl ?_);refine bB abb rfl rfl rfl abv (sU rfl rfl) rfl ?_))
   |refine BB rfl rfl rfl abv rfl ?_
   |with_reducible refine gz ?_
   |with_reducible refine oe ?_
   |with_reducible refine xY ?_
   |with_reducible refine nD ?_
   |with_reducible refine sx ?_
   |with_reducible refine mv ?_
   |with_reducible refine oY ?_
   |with_reducible refine kh ?_
   |with_reducible refine jw ?_
   |with_reducible refine ti ?_))
 exact h):A:=k h
end
end Go.Sx
