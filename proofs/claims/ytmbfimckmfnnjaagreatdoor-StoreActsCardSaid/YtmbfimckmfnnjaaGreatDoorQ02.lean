/- Steps of the proof of a law. -/
import Derived.Test.YtmbfimckmfnnjaaGreatDoorQ01
set_option maxRecDepth 100000
set_option maxHeartbeats 1000000
set_option linter.unusedSimpArgs false
set_option linter.unusedVariables false
namespace Go.Sx
open Go.RowKit
theorem dp:(∀(p:Prop)[Decidable p],(decide p=true)=p)/\(∀(p:Prop)[Decidable p],decide p=false↔¬p)/\(∀b:Bool,((!b)=true)=(b=false))/\(∀b:Bool,((!b)=false)=(b=true))/\
   (∀ {α:Type}(o:Option α),o.isNone=true↔o=none)/\(∀ {α:Type}(a b:α),(a≠b)=¬a=b)/\(∀(p:Prop)[Decidable p],¬¬p↔p)/\(∀a b:Int,¬a<b↔b<=a)/\(∀a b:Int,¬a<=b↔b<a):=
 ⟨fun _ _=>decide_eq_true_eq,fun _ _=>decide_eq_false_iff_not,YO,Bool.not_eq_false',fun _=>Option.isNone_iff_eq_none,fun _ _=>rfl,fun _ _=>Y2,fun _ _=>Int.not_lt,fun _ _=>Int.not_le⟩
section
variable {P:Program} {n:Fr} {w0:World} {σ:Env} {H:List SA} {Q:iM}
theorem T2{id:Nat}{l:List Oper}{y:Code}(h:TL P n w0 l.toArray l σ H (qp P n w0 y Q)):T P n w0 (.seq (.region id l.toArray false) y) σ H Q:=jK (ey h)
theorem TX{all:Array Oper}{y:Code}(h:T P n w0 y σ H Q):TL P n w0 all [] σ H (qp P n w0 y Q):=fJ (eS h)
theorem T4{all:Array Oper}{id:Nat}{l:List Oper}{y:Code}(h:TL P n w0 l.toArray l σ H (qp P n w0 y Q)):TL P n w0 all [] σ H (qp P n w0 (.seq (.region id l.toArray false) y) Q):=TX (T2 h)
theorem S4{id:Nat}{l:List Oper}{y:Code}(h:TL P n w0 l.toArray l σ H (qp P n w0 y Q)):T P n w0 .skip σ H (qp P n w0 (.seq (.region id l.toArray false) y) Q):=oe (eS (T2 h))
variable {all:Array Oper} {rest:List Oper} {d:Nat} {ty:TypeId} {pos:String} {aft:Array Edge} {x:Operand}
theorem WL{z:Int}(h:ev σ x= .int .i64 z)(hd:Nat.blt d n.n=true)(k:TL P n w0 all rest (mn σ d (.int .i64 z)) H Q):TL P n w0 all (⟨some d,.move x,ty,pos,aft,none⟩::rest) σ H Q:=cD (cg _ h) hd k
theorem Wo{z:Int}(h:ev σ x= .int .i64 z)(hd:Nat.blt d n.n=true)(k:TL P n w0 all rest (mn σ d (.int .i64 z)) H Q):TL P n w0 all (⟨some d,.assign x,ty,pos,aft,none⟩::rest) σ H Q:=cD (dQ _ h) hd k
theorem WO{a:Option Addr}{i c:Nat}(h:ev σ x= .slice a i c)(hd:Nat.blt d n.n=true)(k:TL P n w0 all rest (mn σ d (.slice a i c)) H Q):TL P n w0 all (⟨some d,.move x,ty,pos,aft,none⟩::rest) σ H Q:=cD (cg _ h) hd k
theorem WV{a:Option Addr}{i c:Nat}(h:ev σ x= .slice a i c)(hd:Nat.blt d n.n=true)(k:TL P n w0 all rest (mn σ d (.slice a i c)) H Q):TL P n w0 all (⟨some d,.assign x,ty,pos,aft,none⟩::rest) σ H Q:=cD (dQ _ h) hd k
theorem Wq{b:Bool}(h:ev σ x= .bool b)(hd:Nat.blt d n.n=true)(k:TL P n w0 all rest (mn σ d (.bool b)) H Q):TL P n w0 all (⟨some d,.move x,ty,pos,aft,none⟩::rest) σ H Q:=cD (cg _ h) hd k
theorem Ww{b:Bool}(h:ev σ x= .bool b)(hd:Nat.blt d n.n=true)(k:TL P n w0 all rest (mn σ d (.bool b)) H Q):TL P n w0 all (⟨some d,.assign x,ty,pos,aft,none⟩::rest) σ H Q:=cD (dQ _ h) hd k
end
theorem SB{w0:World}{H H':List SA}[h:cJ H' H]:∀w,St w0 H w->St w0 H' w:=h.st
abbrev zq:= @cD
abbrev zf:= @kO
abbrev zp:= @k4
abbrev zt:= @iZ
abbrev zl:= @mV
abbrev zn:= @pq
abbrev zm:= @cg
abbrev za:= @dQ
abbrev zs:= @gV
abbrev zc:= @FC
abbrev ze:= @Nh
abbrev zd:= @jf
abbrev zx:= @eS
abbrev zr:= @nD
abbrev zb:= @oY
abbrev zS:= @jK
abbrev zR:= @ey
abbrev zF:= @kc
abbrev zT:= @jy
abbrev zN:= @Nb
abbrev zX:= @Fu
abbrev zC:= @qK
abbrev zk:= @oe
abbrev zB:= @sx
abbrev zL:= @lN
abbrev zE:= @jw
abbrev zG:= @kh
abbrev zz:= @fJ
abbrev zQ:= @xY
abbrev zW:= @tW
abbrev zY:= @ti
end Go.Sx
