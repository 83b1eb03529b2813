/- Steps of the proof of a law. -/
import Derived.Test.YtmbfimckmfnnjaaGreatDoorQ08
set_option maxRecDepth 100000
set_option maxHeartbeats 1000000
set_option linter.unusedSimpArgs false
set_option linter.unusedVariables false
namespace Go.Proofs.YtmbfimckmfnnjaaGreatDoor
open Go.RowKit Go.Sx Go.Proofs.Tryz
structure aJ where
 aG:Int
 seq:Int
 op:gn
 sig:BS
def aJ.list(v:aJ):List Value:=[.int .i64 v.aG]++([.int .i64 v.seq]++(v.op.list++([.slice v.sig.a v.sig.l.length v.sig.c])))
def aJ.cells(v:aJ):Array Value:=v.list.toArray
variable {v:aJ} {u f1:Int}
theorem aJ.ae(v:aJ):v.list.length=7:=by simp[aJ.list,gn.ae]
theorem aJ.aS(v:aJ):v.list.all Value.oneCell'=true:=by simp[aJ.list,Value.oneCell',gn.aS]
instance WH:Cells v.cells 7:=Cells.list v.ae v.aS
theorem aJ.size(v:aJ):v.cells.size=7:=by simp[aJ.cells,aJ.ae]
instance US:dh v.cells 0 7 v.cells:=⟨by have h:=v.size;apply XX<;>simp[h]⟩
instance V5{u:aJ}:bD v.cells 0 (.agg u.cells) u.cells:=⟨by have:=fN [] v.list [] (v:= .agg u.cells) (o:=0) (n:=7) rfl v.ae u.size;simpa[aJ.cells,Value.cells]using this,by simp[Value.cells,aJ.size]⟩
instance V6:aw v.cells 0 (.int .i64 v.aG):=⟨by simp[aJ.cells,aJ.list,WY,aB,gn.ae]⟩
instance VF:bD v.cells 0 (.int .i64 u) {v with aG:=u}.cells:=by have:=bD.fr ([]:List Value) ([.int .i64 v.aG]) ([.int .i64 v.seq]++v.op.list++[.slice v.sig.a v.sig.l.length v.sig.c]) (cs:=v.cells) (o:=0) (n:=1) (v:= .int .i64 u) ah6 aeR rfl rfl;simpa[aJ.cells,aJ.list,Value.cells]using this
instance Vj:aw v.cells 1 (.int .i64 v.seq):=⟨by simp[aJ.cells,aJ.list,WY,aB,gn.ae]⟩
instance Wf:bD v.cells 1 (.int .i64 u) {v with seq:=u}.cells:=by have:=bD.fr ([.int .i64 v.aG]) ([.int .i64 v.seq]) (v.op.list++[.slice v.sig.a v.sig.l.length v.sig.c]) (cs:=v.cells) (o:=1) (n:=1) (v:= .int .i64 u) ah6 aeR rfl rfl;simpa[aJ.cells,aJ.list,Value.cells]using this
instance VA:dh v.cells 2 4 v.op.cells:=⟨by first|(simp[aJ.cells,aJ.list,gn.ae];done)|(have:=fP ([.int .i64 v.aG]++[.int .i64 v.seq]) (v.op.list) ([.slice v.sig.a v.sig.l.length v.sig.c]) (o:=2) (n:=4) aeR aeR;simpa[aJ.cells,aJ.list,gn.cells]using this)⟩
instance Ts:aw v.cells 2 (.int .i64 v.op.kind):=⟨by simp[aJ.cells,aJ.list,gn.list,WY,aB,gn.ae]⟩
instance VY:bD v.cells 2 (.int .i64 u) {v with op:= {v.op with kind:=u}}.cells:=by have:=bD.fr (([.int .i64 v.aG]++[.int .i64 v.seq])++(([]:List Value))) ([.int .i64 v.op.kind]) (([.int .i64 v.op.key]++[.int .i64 v.op.a]++[.int .i64 v.op.b]++([]:List Value))++([.slice v.sig.a v.sig.l.length v.sig.c])) (cs:=v.cells) (o:=2) (n:=1) (v:= .int .i64 u) aeK aeR rfl rfl;simpa[aJ.cells,aJ.list,gn.list,Value.cells]using this
instance VW:bD v.cells 3 (.int .i64 u) {v with op:= {v.op with key:=u}}.cells:=by have:=bD.fr (([.int .i64 v.aG]++[.int .i64 v.seq])++(([]:List Value)++[.int .i64 v.op.kind])) ([.int .i64 v.op.key]) (([.int .i64 v.op.a]++[.int .i64 v.op.b]++([]:List Value))++([.slice v.sig.a v.sig.l.length v.sig.c])) (cs:=v.cells) (o:=3) (n:=1) (v:= .int .i64 u) aeK aeR rfl rfl;simpa[aJ.cells,aJ.list,gn.list,Value.cells]using this
instance Sj:aw v.cells 4 (.int .i64 v.op.a):=⟨by simp[aJ.cells,aJ.list,gn.list,WY,aB,gn.ae]⟩
instance Uy:bD v.cells 4 (.int .i64 u) {v with op:= {v.op with a:=u}}.cells:=by have:=bD.fr (([.int .i64 v.aG]++[.int .i64 v.seq])++(([]:List Value)++[.int .i64 v.op.kind]++[.int .i64 v.op.key])) ([.int .i64 v.op.a]) (([.int .i64 v.op.b]++([]:List Value))++([.slice v.sig.a v.sig.l.length v.sig.c])) (cs:=v.cells) (o:=4) (n:=1) (v:= .int .i64 u) aeK aeR rfl rfl;simpa[aJ.cells,aJ.list,gn.list,Value.cells]using this
instance TY:bD v.cells 5 (.int .i64 u) {v with op:= {v.op with b:=u}}.cells:=by have:=bD.fr (([.int .i64 v.aG]++[.int .i64 v.seq])++(([]:List Value)++[.int .i64 v.op.kind]++[.int .i64 v.op.key]++[.int .i64 v.op.a])) ([.int .i64 v.op.b]) ((([]:List Value))++([.slice v.sig.a v.sig.l.length v.sig.c])) (cs:=v.cells) (o:=5) (n:=1) (v:= .int .i64 u) aeK aeR rfl rfl;simpa[aJ.cells,aJ.list,gn.list,Value.cells]using this
instance UI:aw v.cells 6 (.slice v.sig.a v.sig.l.length v.sig.c):=⟨by simp[aJ.cells,aJ.list,WY,aB,gn.ae]⟩
instance TR{a:Option Addr}{l:List UInt8}{c:Nat}:bD v.cells 6 (.slice a l.length c) {v with sig:=⟨a,c,l⟩}.cells:=by have:=bD.fr ([.int .i64 v.aG]++[.int .i64 v.seq]++v.op.list) ([.slice v.sig.a v.sig.l.length v.sig.c]) ([]:List Value) (cs:=v.cells) (o:=6) (n:=1) (v:= .slice a l.length c) ah6 aeR rfl rfl;simpa[aJ.cells,aJ.list,Value.cells]using this
instance T3{f0:Int}{f2:gn}{f3:BS}:bD (aJ.mk f0 f1 f2 f3).cells 0 (.int .i64 u) (aJ.mk u f1 f2 f3).cells:=inferInstanceAs (bD (aJ.mk f0 f1 f2 f3).cells 0 (.int .i64 u) {(aJ.mk f0 f1 f2 f3)with aG:=u}.cells)
instance TV{f0:Int}{f2:gn}{f3:BS}:bD (aJ.mk f0 f1 f2 f3).cells 1 (.int .i64 u) (aJ.mk f0 u f2 f3).cells:=inferInstanceAs (bD (aJ.mk f0 f1 f2 f3).cells 1 (.int .i64 u) {(aJ.mk f0 f1 f2 f3)with seq:=u}.cells)
@[reducible] def aJ.zero:aJ:= {aG:=0,seq:=0,op:=gn.zero,sig:=⟨none,0,[]⟩}
instance Vx:lT prog 250 (.agg aJ.zero.cells):=⟨kr⟩
structure dV where
 r:aJ
 e:Int
def dV.list(v:dV):List Value:=v.r.list++([.int .i64 v.e])
def dV.cells(v:dV):Array Value:=v.list.toArray
theorem dV.ae(v:dV):v.list.length=8:=by simp[dV.list,aJ.ae,gn.ae]
theorem dV.aS(v:dV):v.list.all Value.oneCell'=true:=by simp[dV.list,Value.oneCell',aJ.aS]
instance Wk{v:dV}:Cells v.cells 8:=Cells.list v.ae v.aS
theorem dV.size(v:dV):v.cells.size=8:=by simp[dV.cells,dV.ae]
instance Wm{v:dV}:dh v.cells 0 8 v.cells:=⟨by have h:=v.size;apply XX<;>simp[h]⟩
instance Sw{v u:dV}:bD v.cells 0 (.agg u.cells) u.cells:=⟨by have:=fN [] v.list [] (v:= .agg u.cells) (o:=0) (n:=8) rfl v.ae u.size;simpa[dV.cells,Value.cells]using this,by simp[Value.cells,dV.size]⟩
instance TW{v:dV}:dh v.cells 0 7 v.r.cells:=⟨by first|(simp[dV.cells,dV.list,aJ.ae,gn.ae];done)|(have:=fP ([]:List Value) (v.r.list) ([.int .i64 v.e]) (o:=0) (n:=7) ae1 ae1;simpa[dV.cells,dV.list,aJ.cells]using this)⟩
instance VD{v:dV}{u:aJ}:bD v.cells 0 (.agg u.cells) {v with r:=u}.cells:=by have:=bD.fr ([]:List Value) (v.r.list) ([.int .i64 v.e]) (cs:=v.cells) (o:=0) (n:=7) (v:= .agg u.cells) (by simp[dV.cells,dV.list]) ae1 ae1 ahq;simp only[Value.cells,dV.cells,dV.list,aJ.cells,W4,Xh,XG]at this ⊢;first|exact this|simpa using this
instance VU{v:dV}{a:Option Addr}{l:List UInt8}{c:Nat}:bD v.cells 6 (.slice a l.length c) {v with r:= {v.r with sig:=⟨a,c,l⟩}}.cells:=by have:=bD.fr (([]:List Value)++(([]:List Value)++[.int .i64 v.r.aG]++[.int .i64 v.r.seq]++v.r.op.list)) ([.slice v.r.sig.a v.r.sig.l.length v.r.sig.c]) ((([]:List Value))++([.int .i64 v.e])) (cs:=v.cells) (o:=6) (n:=1) (v:= .slice a l.length c) (by simp[dV.cells,dV.list,aJ.list]) ae1 rfl rfl;simpa[dV.cells,dV.list,aJ.list,Value.cells]using this
instance SM{v:dV}:aw v.cells 7 (.int .i64 v.e):=⟨by simp[dV.cells,dV.list,WY,aB,aJ.ae,gn.ae]⟩
instance VR{v:dV}:bD v.cells 7 (.int .i64 u) {v with e:=u}.cells:=by have:=bD.fr (v.r.list) ([.int .i64 v.e]) ([]:List Value) (cs:=v.cells) (o:=7) (n:=1) (v:= .int .i64 u) (by simp[dV.cells,dV.list]) ae1 rfl rfl;simpa[dV.cells,dV.list,Value.cells]using this
instance Vy{f0:aJ}:aw (dV.mk f0 f1).cells 7 (.int .i64 f1):=inferInstanceAs (aw (dV.mk f0 f1).cells 7 (.int .i64 (dV.mk f0 f1).e))
instance TJ{f0:aJ}:bD (dV.mk f0 f1).cells 7 (.int .i64 u) (dV.mk f0 u).cells:=inferInstanceAs (bD (dV.mk f0 f1).cells 7 (.int .i64 u) {(dV.mk f0 f1)with e:=u}.cells)
@[reducible] def dV.zero:dV:= {r:=aJ.zero,e:=0}
instance Tz:lT prog 252 (.agg dV.zero.cells):=⟨kr⟩
end Go.Proofs.YtmbfimckmfnnjaaGreatDoor
