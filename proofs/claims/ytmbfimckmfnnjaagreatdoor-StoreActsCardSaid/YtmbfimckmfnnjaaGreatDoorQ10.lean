/- Steps of the proof of a law. -/
import Derived.Test.YtmbfimckmfnnjaaGreatDoorQ08
import Derived.Test.YtmbfimckmfnnjaaGreatDoorQ09
set_option maxRecDepth 100000
set_option maxHeartbeats 1000000
set_option linter.unusedSimpArgs false
set_option linter.unusedVariables false
namespace Go.Proofs.YtmbfimckmfnnjaaGreatDoor
open Go.RowKit Go.Sx Go.Proofs.Tryz
structure bG where
 view:Int
 dZ:Int
def bG.list(v:bG):List Value:=[.int .i64 v.view]++([.int .i64 v.dZ])
def bG.cells(v:bG):Array Value:=v.list.toArray
theorem bG.ae(v:bG):v.list.length=2:=by simp[bG.list]
theorem bG.aS(v:bG):v.list.all Value.oneCell'=true:=by simp[bG.list,Value.oneCell']
instance WG{v:bG}:Cells v.cells 2:=Cells.list v.ae v.aS
theorem bG.size(v:bG):v.cells.size=2:=by simp[bG.cells,bG.ae]
instance WN{v:bG}:dh v.cells 0 2 v.cells:=⟨by have h:=v.size;apply XX<;>simp[h]⟩
instance UZ{v u:bG}:bD v.cells 0 (.agg u.cells) u.cells:=⟨by have:=fN [] v.list [] (v:= .agg u.cells) (o:=0) (n:=2) rfl v.ae u.size;simpa[bG.cells,Value.cells]using this,by simp[Value.cells,bG.size]⟩
instance TM{v:bG}:aw v.cells 0 (.int .i64 v.view):=⟨by simp[bG.cells,bG.list,WY,aB]⟩
instance Uu{v:bG}{u:Int}:bD v.cells 0 (.int .i64 u) {v with view:=u}.cells:=by have:=bD.fr ([]:List Value) ([.int .i64 v.view]) ([.int .i64 v.dZ]) (cs:=v.cells) (o:=0) (n:=1) (v:= .int .i64 u) (by simp[bG.cells,bG.list]) sm rfl rfl;simpa[bG.cells,bG.list,Value.cells]using this
instance S0{v:bG}:aw v.cells 1 (.int .i64 v.dZ):=⟨by simp[bG.cells,bG.list,WY,aB]⟩
instance Ti{v:bG}{u:Int}:bD v.cells 1 (.int .i64 u) {v with dZ:=u}.cells:=by have:=bD.fr ([.int .i64 v.view]) ([.int .i64 v.dZ]) ([]:List Value) (cs:=v.cells) (o:=1) (n:=1) (v:= .int .i64 u) (by simp[bG.cells,bG.list]) sm rfl rfl;simpa[bG.cells,bG.list,Value.cells]using this
instance Tn{f0:Int}{f1:Int}{u:Int}:bD (bG.mk f0 f1).cells 0 (.int .i64 u) (bG.mk u f1).cells:=inferInstanceAs (bD (bG.mk f0 f1).cells 0 (.int .i64 u) {(bG.mk f0 f1)with view:=u}.cells)
instance U3{f0:Int}{f1:Int}{u:Int}:bD (bG.mk f0 f1).cells 1 (.int .i64 u) (bG.mk f0 u).cells:=inferInstanceAs (bD (bG.mk f0 f1).cells 1 (.int .i64 u) {(bG.mk f0 f1)with dZ:=u}.cells)
@[reducible] def bG.zero:bG:= {view:=0,dZ:=0}
instance Tk:lT prog 128 (.agg bG.zero.cells):=⟨kr⟩
theorem bG.dk(x y:bG):x=y↔x.view=y.view/\x.dZ=y.dZ:=adW
instance VX:DecidableEq bG:=fun x y=>decidable_of_iff _ (bG.dk x y).symm
instance SR{x y:bG}:KA prog 128 (.agg x.cells) (.agg y.cells) (decide (x=y)):=⟨fun d w=>by
 rw[run_equalIn_struct w (d+3) 128 _ _ kr kr];simp only[Program.fieldsOf,underlying128];simp only[Op.eqFields,ne_eq,Sem.run_bind,Sem.run_ite,Sem.run_pure,Result.andThen_ok,qy,rV,AO];rw[show decide (x=y)=(decide (x.view=y.view)&&(decide (x.dZ=y.dZ)&&true))from by rw[W5];simp[bG.dk]]
 try simp only[String.reduceEq,not_false_eq_true,if_true,Result.andThen_ok]
 cases decide (x.view=y.view)<;>cases decide (x.dZ=y.dZ)<;>rfl⟩
structure af where
 kind:Int
 view:Int
 dZ:Int
 slot:Int
 hash:Vector UInt8 32
 batch:BS
 cert:PS
def af.list(v:af):List Value:=[.int .i64 v.kind]++([.int .i64 v.view]++([.int .i64 v.dZ]++([.int .i64 v.slot]++(aX v.hash++([.slice v.batch.a v.batch.l.length v.batch.c]++([.slice v.cert.a v.cert.ls.length v.cert.c]))))))
def af.cells(v:af):Array Value:=v.list.toArray
theorem af.ae(v:af):v.list.length=38:=by simp[af.list]
theorem af.aS(v:af):v.list.all Value.oneCell'=true:=by simp[af.list,Value.oneCell']
instance UH{v:af}:Cells v.cells 38:=Cells.list v.ae v.aS
theorem af.size(v:af):v.cells.size=38:=by simp[af.cells,af.ae]
instance SD{v:af}:dh v.cells 0 38 v.cells:=⟨by have h:=v.size;apply XX<;>simp[h]⟩
instance SQ{v u:af}:bD v.cells 0 (.agg u.cells) u.cells:=⟨by have:=fN [] v.list [] (v:= .agg u.cells) (o:=0) (n:=38) rfl v.ae u.size;simpa[af.cells,Value.cells]using this,by simp[Value.cells,af.size]⟩
instance VS{v:af}:aw v.cells 0 (.int .i64 v.kind):=⟨by simp[af.cells,af.list,WY,aB]⟩
instance U0{v:af}{u:Int}:bD v.cells 0 (.int .i64 u) {v with kind:=u}.cells:=by have:=bD.fr ([]:List Value) ([.int .i64 v.kind]) ([.int .i64 v.view]++[.int .i64 v.dZ]++[.int .i64 v.slot]++aX v.hash++[.slice v.batch.a v.batch.l.length v.batch.c]++[.slice v.cert.a v.cert.ls.length v.cert.c]) (cs:=v.cells) (o:=0) (n:=1) (v:= .int .i64 u) aed sm rfl rfl;simpa[af.cells,af.list,Value.cells]using this
instance UM{v:af}:aw v.cells 1 (.int .i64 v.view):=⟨by simp[af.cells,af.list,WY,aB]⟩
instance Uo{v:af}{u:Int}:bD v.cells 1 (.int .i64 u) {v with view:=u}.cells:=by have:=bD.fr ([.int .i64 v.kind]) ([.int .i64 v.view]) ([.int .i64 v.dZ]++[.int .i64 v.slot]++aX v.hash++[.slice v.batch.a v.batch.l.length v.batch.c]++[.slice v.cert.a v.cert.ls.length v.cert.c]) (cs:=v.cells) (o:=1) (n:=1) (v:= .int .i64 u) aed sm rfl rfl;simpa[af.cells,af.list,Value.cells]using this
instance Uj{v:af}:aw v.cells 2 (.int .i64 v.dZ):=⟨by simp[af.cells,af.list,WY,aB]⟩
instance Ux{v:af}{u:Int}:bD v.cells 2 (.int .i64 u) {v with dZ:=u}.cells:=by have:=bD.fr ([.int .i64 v.kind]++[.int .i64 v.view]) ([.int .i64 v.dZ]) ([.int .i64 v.slot]++aX v.hash++[.slice v.batch.a v.batch.l.length v.batch.c]++[.slice v.cert.a v.cert.ls.length v.cert.c]) (cs:=v.cells) (o:=2) (n:=1) (v:= .int .i64 u) aed sm rfl rfl;simpa[af.cells,af.list,Value.cells]using this
instance UN{v:af}:aw v.cells 3 (.int .i64 v.slot):=⟨by simp[af.cells,af.list,WY,aB]⟩
instance TD{v:af}{u:Int}:bD v.cells 3 (.int .i64 u) {v with slot:=u}.cells:=by have:=bD.fr ([.int .i64 v.kind]++[.int .i64 v.view]++[.int .i64 v.dZ]) ([.int .i64 v.slot]) (aX v.hash++[.slice v.batch.a v.batch.l.length v.batch.c]++[.slice v.cert.a v.cert.ls.length v.cert.c]) (cs:=v.cells) (o:=3) (n:=1) (v:= .int .i64 u) aed sm rfl rfl;simpa[af.cells,af.list,Value.cells]using this
instance T8{v:af}:dh v.cells 4 32 (aX v.hash).toArray:=⟨by first|(simp[af.cells,af.list];done)|(have:=fP ([.int .i64 v.kind]++[.int .i64 v.view]++[.int .i64 v.dZ]++[.int .i64 v.slot]) (aX v.hash) ([.slice v.batch.a v.batch.l.length v.batch.c]++[.slice v.cert.a v.cert.ls.length v.cert.c]) (o:=4) (n:=32) sm sm;simpa[af.cells,af.list]using this)⟩
instance SJ{v:af}:aw v.cells 36 (.slice v.batch.a v.batch.l.length v.batch.c):=⟨by simp[af.cells,af.list,WY,aB]⟩
instance SX{v:af}{a:Option Addr}{l:List UInt8}{c:Nat}:bD v.cells 36 (.slice a l.length c) {v with batch:=⟨a,c,l⟩}.cells:=by have:=bD.fr ([.int .i64 v.kind]++[.int .i64 v.view]++[.int .i64 v.dZ]++[.int .i64 v.slot]++aX v.hash) ([.slice v.batch.a v.batch.l.length v.batch.c]) ([.slice v.cert.a v.cert.ls.length v.cert.c]) (cs:=v.cells) (o:=36) (n:=1) (v:= .slice a l.length c) aed sm rfl rfl;simpa[af.cells,af.list,Value.cells]using this
instance TT{v:af}:aw v.cells 37 (.slice v.cert.a v.cert.ls.length v.cert.c):=⟨by simp[af.cells,af.list,WY,aB]⟩
instance SV{v:af}{a:Option Addr}{l:List BS}{c:Nat}:bD v.cells 37 (.slice a l.length c) {v with cert:=⟨a,c,l⟩}.cells:=by have:=bD.fr ([.int .i64 v.kind]++[.int .i64 v.view]++[.int .i64 v.dZ]++[.int .i64 v.slot]++aX v.hash++[.slice v.batch.a v.batch.l.length v.batch.c]) ([.slice v.cert.a v.cert.ls.length v.cert.c]) ([]:List Value) (cs:=v.cells) (o:=37) (n:=1) (v:= .slice a l.length c) aed sm rfl rfl;simpa[af.cells,af.list,Value.cells]using this
instance Vt{f0:Int}{f1:Int}{f2:Int}{f3:Int}{f4:Vector UInt8 32}{f5:BS}{f6:PS}{u:Int}:bD (af.mk f0 f1 f2 f3 f4 f5 f6).cells 0 (.int .i64 u) (af.mk u f1 f2 f3 f4 f5 f6).cells:=inferInstanceAs (bD (af.mk f0 f1 f2 f3 f4 f5 f6).cells 0 (.int .i64 u) {(af.mk f0 f1 f2 f3 f4 f5 f6)with kind:=u}.cells)
instance U6{f0:Int}{f1:Int}{f2:Int}{f3:Int}{f4:Vector UInt8 32}{f5:BS}{f6:PS}{u:Int}:bD (af.mk f0 f1 f2 f3 f4 f5 f6).cells 1 (.int .i64 u) (af.mk f0 u f2 f3 f4 f5 f6).cells:=inferInstanceAs (bD (af.mk f0 f1 f2 f3 f4 f5 f6).cells 1 (.int .i64 u) {(af.mk f0 f1 f2 f3 f4 f5 f6)with view:=u}.cells)
instance Se{f0:Int}{f1:Int}{f2:Int}{f3:Int}{f4:Vector UInt8 32}{f5:BS}{f6:PS}{u:Int}:bD (af.mk f0 f1 f2 f3 f4 f5 f6).cells 2 (.int .i64 u) (af.mk f0 f1 u f3 f4 f5 f6).cells:=inferInstanceAs (bD (af.mk f0 f1 f2 f3 f4 f5 f6).cells 2 (.int .i64 u) {(af.mk f0 f1 f2 f3 f4 f5 f6)with dZ:=u}.cells)
instance TQ{f0:Int}{f1:Int}{f2:Int}{f3:Int}{f4:Vector UInt8 32}{f5:BS}{f6:PS}{u:Int}:bD (af.mk f0 f1 f2 f3 f4 f5 f6).cells 3 (.int .i64 u) (af.mk f0 f1 f2 u f4 f5 f6).cells:=inferInstanceAs (bD (af.mk f0 f1 f2 f3 f4 f5 f6).cells 3 (.int .i64 u) {(af.mk f0 f1 f2 f3 f4 f5 f6)with slot:=u}.cells)
instance U9{f0:Int}{f1:Int}{f2:Int}{f3:Int}{f4:Vector UInt8 32}{f5:BS}{f6:PS}{a:Option Addr}{c:Nat}{l:List UInt8}:bD (af.mk f0 f1 f2 f3 f4 f5 f6).cells 36 (.slice a l.length c) (af.mk f0 f1 f2 f3 f4 (BS.mk a c l) f6).cells:=inferInstanceAs (bD (af.mk f0 f1 f2 f3 f4 f5 f6).cells 36 (.slice a l.length c) {(af.mk f0 f1 f2 f3 f4 f5 f6)with batch:=(BS.mk a c l)}.cells)
instance V0{f0:Int}{f1:Int}{f2:Int}{f3:Int}{f4:Vector UInt8 32}{f5:BS}{f6:PS}:aw (af.mk f0 f1 f2 f3 f4 f5 f6).cells 37 (.slice f6.a f6.ls.length f6.c):=inferInstanceAs (aw (af.mk f0 f1 f2 f3 f4 f5 f6).cells 37 (.slice (af.mk f0 f1 f2 f3 f4 f5 f6).cert.a (af.mk f0 f1 f2 f3 f4 f5 f6).cert.ls.length (af.mk f0 f1 f2 f3 f4 f5 f6).cert.c))
instance SZ{f0:Int}{f1:Int}{f2:Int}{f3:Int}{f4:Vector UInt8 32}{f5:BS}{a:Option Addr}{c:Nat}{l:List BS}:aw (af.mk f0 f1 f2 f3 f4 f5 (PS.mk a c l)).cells 37 (.slice a l.length c):=inferInstanceAs (aw (af.mk f0 f1 f2 f3 f4 f5 (PS.mk a c l)).cells 37 (.slice (af.mk f0 f1 f2 f3 f4 f5 (PS.mk a c l)).cert.a (af.mk f0 f1 f2 f3 f4 f5 (PS.mk a c l)).cert.ls.length (af.mk f0 f1 f2 f3 f4 f5 (PS.mk a c l)).cert.c))
instance Sr{f0:Int}{f1:Int}{f2:Int}{f3:Int}{f4:Vector UInt8 32}{f5:BS}{f6:PS}{a:Option Addr}{c:Nat}{l:List BS}:bD (af.mk f0 f1 f2 f3 f4 f5 f6).cells 37 (.slice a l.length c) (af.mk f0 f1 f2 f3 f4 f5 (PS.mk a c l)).cells:=inferInstanceAs (bD (af.mk f0 f1 f2 f3 f4 f5 f6).cells 37 (.slice a l.length c) {(af.mk f0 f1 f2 f3 f4 f5 f6)with cert:=(PS.mk a c l)}.cells)
@[reducible] def af.zero:af:= {kind:=0,view:=0,dZ:=0,slot:=0,hash:=zeroV 32,batch:=⟨none,0,[]⟩,cert:=⟨none,0,[]⟩}
instance Wl:lT prog 57 (.agg af.zero.cells):=⟨kr⟩
structure bl where
 now:bG
 cO:Bool
 slot:Int
 wrote:Option Nat
 accepted:Option Addr
def bl.list(v:bl):List Value:=v.now.list++([.bool v.cO]++([.int .i64 v.slot]++([.map v.wrote]++([.pointer v.accepted]))))
def bl.cells(v:bl):Array Value:=v.list.toArray
theorem bl.ae(v:bl):v.list.length=6:=by simp[bl.list,bG.ae]
theorem bl.aS(v:bl):v.list.all Value.oneCell'=true:=by simp[bl.list,Value.oneCell',bG.aS]
instance VB{v:bl}:Cells v.cells 6:=Cells.list v.ae v.aS
theorem bl.size(v:bl):v.cells.size=6:=by simp[bl.cells,bl.ae]
instance Sy{v:bl}:dh v.cells 0 2 v.now.cells:=⟨by first|(simp[bl.cells,bl.list,bG.ae];done)|(have:=fP ([]:List Value) (v.now.list) ([.bool v.cO]++[.int .i64 v.slot]++[.map v.wrote]++[.pointer v.accepted]) (o:=0) (n:=2) afo afo;simpa[bl.cells,bl.list,bG.cells]using this)⟩
instance VG{v:bl}{u:bG}:bD v.cells 0 (.agg u.cells) {v with now:=u}.cells:=by have:=bD.fr ([]:List Value) (v.now.list) ([.bool v.cO]++[.int .i64 v.slot]++[.map v.wrote]++[.pointer v.accepted]) (cs:=v.cells) (o:=0) (n:=2) (v:= .agg u.cells) aeS afo afo (by simp[Value.cells,bG.size]);simp only[Value.cells,bl.cells,bl.list,bG.cells,W4,Xh,XG]at this ⊢;first|exact this|simpa using this
instance S7{v:bl}:aw v.cells 0 (.int .i64 v.now.view):=⟨by simp[bl.cells,bl.list,bG.list,WY,aB,bG.ae]⟩
instance QX{v:bl}:aw v.cells 1 (.int .i64 v.now.dZ):=⟨by simp[bl.cells,bl.list,bG.list,WY,aB,bG.ae]⟩
instance QR{v:bl}:aw v.cells 2 (.bool v.cO):=⟨by simp[bl.cells,bl.list,WY,aB,bG.ae]⟩
instance Ra{v:bl}{u:Bool}:bD v.cells 2 (.bool u) {v with cO:=u}.cells:=by have:=bD.fr (v.now.list) ([.bool v.cO]) ([.int .i64 v.slot]++[.map v.wrote]++[.pointer v.accepted]) (cs:=v.cells) (o:=2) (n:=1) (v:= .bool u) aeS afo rfl rfl;simpa[bl.cells,bl.list,Value.cells]using this
instance Rv{v:bl}:aw v.cells 3 (.int .i64 v.slot):=⟨by simp[bl.cells,bl.list,WY,aB,bG.ae]⟩
instance QP{v:bl}{u:Int}:bD v.cells 3 (.int .i64 u) {v with slot:=u}.cells:=by have:=bD.fr (v.now.list++[.bool v.cO]) ([.int .i64 v.slot]) ([.map v.wrote]++[.pointer v.accepted]) (cs:=v.cells) (o:=3) (n:=1) (v:= .int .i64 u) aeS afo rfl rfl;simpa[bl.cells,bl.list,Value.cells]using this
instance Rs{v:bl}:aw v.cells 4 (.map v.wrote):=⟨by simp[bl.cells,bl.list,WY,aB,bG.ae]⟩
instance Rm{v:bl}{u:Option Nat}:bD v.cells 4 (.map u) {v with wrote:=u}.cells:=by have:=bD.fr (v.now.list++[.bool v.cO]++[.int .i64 v.slot]) ([.map v.wrote]) ([.pointer v.accepted]) (cs:=v.cells) (o:=4) (n:=1) (v:= .map u) aeS afo rfl rfl;simpa[bl.cells,bl.list,Value.cells]using this
instance RK{v:bl}:aw v.cells 5 (.pointer v.accepted):=⟨by simp[bl.cells,bl.list,WY,aB,bG.ae]⟩
instance R9{v:bl}{u:Option Addr}:bD v.cells 5 (.pointer u) {v with accepted:=u}.cells:=by have:=bD.fr (v.now.list++[.bool v.cO]++[.int .i64 v.slot]++[.map v.wrote]) ([.pointer v.accepted]) ([]:List Value) (cs:=v.cells) (o:=5) (n:=1) (v:= .pointer u) aeS afo rfl rfl;simpa[bl.cells,bl.list,Value.cells]using this
instance RV{f0:bG}{f1:Bool}{f2:Int}{f3:Option Nat}{f4:Option Addr}:aw (bl.mk f0 f1 f2 f3 f4).cells 2 (.bool f1):=inferInstanceAs (aw (bl.mk f0 f1 f2 f3 f4).cells 2 (.bool (bl.mk f0 f1 f2 f3 f4).cO))
instance PM{f0:bG}{f1:Bool}{f2:Int}{f3:Option Nat}{f4:Option Addr}{u:Bool}:bD (bl.mk f0 f1 f2 f3 f4).cells 2 (.bool u) (bl.mk f0 u f2 f3 f4).cells:=inferInstanceAs (bD (bl.mk f0 f1 f2 f3 f4).cells 2 (.bool u) {(bl.mk f0 f1 f2 f3 f4)with cO:=u}.cells)
instance QU{f0:bG}{f1:Bool}{f2:Int}{f3:Option Nat}{f4:Option Addr}:aw (bl.mk f0 f1 f2 f3 f4).cells 3 (.int .i64 f2):=inferInstanceAs (aw (bl.mk f0 f1 f2 f3 f4).cells 3 (.int .i64 (bl.mk f0 f1 f2 f3 f4).slot))
instance RJ{f0:bG}{f1:Bool}{f2:Int}{f3:Option Nat}{f4:Option Addr}{u:Int}:bD (bl.mk f0 f1 f2 f3 f4).cells 3 (.int .i64 u) (bl.mk f0 f1 u f3 f4).cells:=inferInstanceAs (bD (bl.mk f0 f1 f2 f3 f4).cells 3 (.int .i64 u) {(bl.mk f0 f1 f2 f3 f4)with slot:=u}.cells)
instance RA{f0:bG}{f1:Bool}{f2:Int}{f3:Option Nat}{f4:Option Addr}:aw (bl.mk f0 f1 f2 f3 f4).cells 4 (.map f3):=inferInstanceAs (aw (bl.mk f0 f1 f2 f3 f4).cells 4 (.map (bl.mk f0 f1 f2 f3 f4).wrote))
instance P3{f0:bG}{f1:Bool}{f2:Int}{f3:Option Nat}{f4:Option Addr}{u:Option Nat}:bD (bl.mk f0 f1 f2 f3 f4).cells 4 (.map u) (bl.mk f0 f1 f2 u f4).cells:=inferInstanceAs (bD (bl.mk f0 f1 f2 f3 f4).cells 4 (.map u) {(bl.mk f0 f1 f2 f3 f4)with wrote:=u}.cells)
instance Ro{f0:bG}{f1:Bool}{f2:Int}{f3:Option Nat}{f4:Option Addr}:aw (bl.mk f0 f1 f2 f3 f4).cells 5 (.pointer f4):=inferInstanceAs (aw (bl.mk f0 f1 f2 f3 f4).cells 5 (.pointer (bl.mk f0 f1 f2 f3 f4).accepted))
instance RU{f0:bG}{f1:Bool}{f2:Int}{f3:Option Nat}{f4:Option Addr}{u:Option Addr}:bD (bl.mk f0 f1 f2 f3 f4).cells 5 (.pointer u) (bl.mk f0 f1 f2 f3 u).cells:=inferInstanceAs (bD (bl.mk f0 f1 f2 f3 f4).cells 5 (.pointer u) {(bl.mk f0 f1 f2 f3 f4)with accepted:=u}.cells)
@[reducible] def bl.zero:bl:= {now:=bG.zero,cO:=false,slot:=0,wrote:=none,accepted:=none}
instance R8:lT prog 131 (.agg bl.zero.cells):=⟨kr⟩
structure aM where
 world:aj
 last:ah
 aT:Sl
 dA:Sl
 saved:Int
def aM.list(v:aM):List Value:=v.world.list++(v.last.list++([.slice v.aT.a v.aT.n v.aT.c]++([.slice v.dA.a v.dA.n v.dA.c]++([.int .i64 v.saved]))))
def aM.cells(v:aM):Array Value:=v.list.toArray
theorem aM.ae(v:aM):v.list.length=106:=by simp[aM.list,aj.ae,ah.ae]
theorem aM.aS(v:aM):v.list.all Value.oneCell'=true:=by simp[aM.list,Value.oneCell',aj.aS,ah.aS]
instance R5{v:aM}:Cells v.cells 106:=Cells.list v.ae v.aS
theorem aM.size(v:aM):v.cells.size=106:=by simp[aM.cells,aM.ae]
instance Q9{v:aM}:dh v.cells 0 106 v.cells:=⟨by have h:=v.size;apply XX<;>simp[h]⟩
instance Rr{v u:aM}:bD v.cells 0 (.agg u.cells) u.cells:=⟨by have:=fN [] v.list [] (v:= .agg u.cells) (o:=0) (n:=106) rfl v.ae u.size;simpa[aM.cells,Value.cells]using this,by simp[Value.cells,aM.size]⟩
instance R0{v:aM}:dh v.cells 0 68 v.world.cells:=⟨by first|(simp[aM.cells,aM.list,aj.ae,ah.ae];done)|(have:=fP ([]:List Value) (v.world.list) (v.last.list++[.slice v.aT.a v.aT.n v.aT.c]++[.slice v.dA.a v.dA.n v.dA.c]++[.int .i64 v.saved]) (o:=0) (n:=68) abM abM;simpa[aM.cells,aM.list,aj.cells,ah.cells]using this)⟩
instance QG{v:aM}{u:aj}:bD v.cells 0 (.agg u.cells) {v with world:=u}.cells:=by have:=bD.fr ([]:List Value) (v.world.list) (v.last.list++[.slice v.aT.a v.aT.n v.aT.c]++[.slice v.dA.a v.dA.n v.dA.c]++[.int .i64 v.saved]) (cs:=v.cells) (o:=0) (n:=68) (v:= .agg u.cells) aeT abM abM aeu;simp only[Value.cells,aM.cells,aM.list,aj.cells,ah.cells,W4,Xh,XG]at this ⊢;first|exact this|simpa using this
instance RP{v:aM}:dh v.cells 68 35 v.last.cells:=⟨by first|(simp[aM.cells,aM.list,aj.ae,ah.ae];done)|(have:=fP (v.world.list) (v.last.list) ([.slice v.aT.a v.aT.n v.aT.c]++[.slice v.dA.a v.dA.n v.dA.c]++[.int .i64 v.saved]) (o:=68) (n:=35) abM abM;simpa[aM.cells,aM.list,aj.cells,ah.cells]using this)⟩
instance P2{v:aM}{u:ah}:bD v.cells 68 (.agg u.cells) {v with last:=u}.cells:=by have:=bD.fr (v.world.list) (v.last.list) ([.slice v.aT.a v.aT.n v.aT.c]++[.slice v.dA.a v.dA.n v.dA.c]++[.int .i64 v.saved]) (cs:=v.cells) (o:=68) (n:=35) (v:= .agg u.cells) aeT abM abM aeu;simp only[Value.cells,aM.cells,aM.list,aj.cells,ah.cells,W4,Xh,XG]at this ⊢;first|exact this|simpa using this
instance R6{v:aM}:aw v.cells 103 (.slice v.aT.a v.aT.n v.aT.c):=⟨by simp[aM.cells,aM.list,WY,aB,aj.ae,ah.ae]⟩
instance RS{v:aM}{a:Option Addr}{n c:Nat}:bD v.cells 103 (.slice a n c) {v with aT:=⟨a,n,c⟩}.cells:=by have:=bD.fr (v.world.list++v.last.list) ([.slice v.aT.a v.aT.n v.aT.c]) ([.slice v.dA.a v.dA.n v.dA.c]++[.int .i64 v.saved]) (cs:=v.cells) (o:=103) (n:=1) (v:= .slice a n c) aeT abM rfl rfl;simpa[aM.cells,aM.list,Value.cells]using this
instance Qy{v:aM}:aw v.cells 104 (.slice v.dA.a v.dA.n v.dA.c):=⟨by simp[aM.cells,aM.list,WY,aB,aj.ae,ah.ae]⟩
instance RH{v:aM}{a:Option Addr}{n c:Nat}:bD v.cells 104 (.slice a n c) {v with dA:=⟨a,n,c⟩}.cells:=by have:=bD.fr (v.world.list++v.last.list++[.slice v.aT.a v.aT.n v.aT.c]) ([.slice v.dA.a v.dA.n v.dA.c]) ([.int .i64 v.saved]) (cs:=v.cells) (o:=104) (n:=1) (v:= .slice a n c) aeT abM rfl rfl;simpa[aM.cells,aM.list,Value.cells]using this
instance Qj{v:aM}:aw v.cells 105 (.int .i64 v.saved):=⟨by simp[aM.cells,aM.list,WY,aB,aj.ae,ah.ae]⟩
instance RF{v:aM}{u:Int}:bD v.cells 105 (.int .i64 u) {v with saved:=u}.cells:=by have:=bD.fr (v.world.list++v.last.list++[.slice v.aT.a v.aT.n v.aT.c]++[.slice v.dA.a v.dA.n v.dA.c]) ([.int .i64 v.saved]) ([]:List Value) (cs:=v.cells) (o:=105) (n:=1) (v:= .int .i64 u) aeT abM rfl rfl;simpa[aM.cells,aM.list,Value.cells]using this
instance Sd{f0:aj}{f1:ah}{f2:Sl}{f3:Sl}{f4:Int}:aw (aM.mk f0 f1 f2 f3 f4).cells 103 (.slice f2.a f2.n f2.c):=inferInstanceAs (aw (aM.mk f0 f1 f2 f3 f4).cells 103 (.slice (aM.mk f0 f1 f2 f3 f4).aT.a (aM.mk f0 f1 f2 f3 f4).aT.n (aM.mk f0 f1 f2 f3 f4).aT.c))
instance Qr{f0:aj}{f1:ah}{f3:Sl}{f4:Int}{a:Option Addr}{n c:Nat}:aw (aM.mk f0 f1 (Sl.mk a n c) f3 f4).cells 103 (.slice a n c):=inferInstanceAs (aw (aM.mk f0 f1 (Sl.mk a n c) f3 f4).cells 103 (.slice (aM.mk f0 f1 (Sl.mk a n c) f3 f4).aT.a (aM.mk f0 f1 (Sl.mk a n c) f3 f4).aT.n (aM.mk f0 f1 (Sl.mk a n c) f3 f4).aT.c))
instance PN{f0:aj}{f1:ah}{f2:Sl}{f3:Sl}{f4:Int}{a:Option Addr}{n c:Nat}:bD (aM.mk f0 f1 f2 f3 f4).cells 103 (.slice a n c) (aM.mk f0 f1 (Sl.mk a n c) f3 f4).cells:=inferInstanceAs (bD (aM.mk f0 f1 f2 f3 f4).cells 103 (.slice a n c) {(aM.mk f0 f1 f2 f3 f4)with aT:=(Sl.mk a n c)}.cells)
instance Rf{f0:aj}{f1:ah}{f2:Sl}{f3:Sl}{f4:Int}:aw (aM.mk f0 f1 f2 f3 f4).cells 104 (.slice f3.a f3.n f3.c):=inferInstanceAs (aw (aM.mk f0 f1 f2 f3 f4).cells 104 (.slice (aM.mk f0 f1 f2 f3 f4).dA.a (aM.mk f0 f1 f2 f3 f4).dA.n (aM.mk f0 f1 f2 f3 f4).dA.c))
instance Qb{f0:aj}{f1:ah}{f2:Sl}{f4:Int}{a:Option Addr}{n c:Nat}:aw (aM.mk f0 f1 f2 (Sl.mk a n c) f4).cells 104 (.slice a n c):=inferInstanceAs (aw (aM.mk f0 f1 f2 (Sl.mk a n c) f4).cells 104 (.slice (aM.mk f0 f1 f2 (Sl.mk a n c) f4).dA.a (aM.mk f0 f1 f2 (Sl.mk a n c) f4).dA.n (aM.mk f0 f1 f2 (Sl.mk a n c) f4).dA.c))
instance Rn{f0:aj}{f1:ah}{f2:Sl}{f3:Sl}{f4:Int}{a:Option Addr}{n c:Nat}:bD (aM.mk f0 f1 f2 f3 f4).cells 104 (.slice a n c) (aM.mk f0 f1 f2 (Sl.mk a n c) f4).cells:=inferInstanceAs (bD (aM.mk f0 f1 f2 f3 f4).cells 104 (.slice a n c) {(aM.mk f0 f1 f2 f3 f4)with dA:=(Sl.mk a n c)}.cells)
instance RO{f0:aj}{f1:ah}{f2:Sl}{f3:Sl}{f4:Int}:aw (aM.mk f0 f1 f2 f3 f4).cells 105 (.int .i64 f4):=inferInstanceAs (aw (aM.mk f0 f1 f2 f3 f4).cells 105 (.int .i64 (aM.mk f0 f1 f2 f3 f4).saved))
instance Rk{f0:aj}{f1:ah}{f2:Sl}{f3:Sl}{f4:Int}{u:Int}:bD (aM.mk f0 f1 f2 f3 f4).cells 105 (.int .i64 u) (aM.mk f0 f1 f2 f3 u).cells:=inferInstanceAs (bD (aM.mk f0 f1 f2 f3 f4).cells 105 (.int .i64 u) {(aM.mk f0 f1 f2 f3 f4)with saved:=u}.cells)
@[reducible] def aM.zero:aM:= {world:=aj.zero,last:=ah.zero,aT:=⟨none,0,0⟩,dA:=⟨none,0,0⟩,saved:=0}
instance Q0:lT prog 87 (.agg aM.zero.cells):=⟨kr⟩
structure bq where
 state:Option Addr
 d:Option Addr
 log:Option Addr
 book:Option Addr
 full:Bool
def bq.list(v:bq):List Value:=[.pointer v.state]++([.pointer v.d]++([.pointer v.log]++([.pointer v.book]++([.bool v.full]))))
def bq.cells(v:bq):Array Value:=v.list.toArray
theorem bq.ae(v:bq):v.list.length=5:=by simp[bq.list]
theorem bq.aS(v:bq):v.list.all Value.oneCell'=true:=by simp[bq.list,Value.oneCell']
theorem bq.size(v:bq):v.cells.size=5:=by simp[bq.cells,bq.ae]
instance R4{v:bq}:aw v.cells 0 (.pointer v.state):=⟨by simp[bq.cells,bq.list,WY,aB]⟩
instance RN{v:bq}{u:Option Addr}:bD v.cells 0 (.pointer u) {v with state:=u}.cells:=by have:=bD.fr ([]:List Value) ([.pointer v.state]) ([.pointer v.d]++[.pointer v.log]++[.pointer v.book]++[.bool v.full]) (cs:=v.cells) (o:=0) (n:=1) (v:= .pointer u) aeU sm rfl rfl;simpa[bq.cells,bq.list,Value.cells]using this
instance Rg{v:bq}:aw v.cells 1 (.pointer v.d):=⟨by simp[bq.cells,bq.list,WY,aB]⟩
instance RW{v:bq}{u:Option Addr}:bD v.cells 1 (.pointer u) {v with d:=u}.cells:=by have:=bD.fr ([.pointer v.state]) ([.pointer v.d]) ([.pointer v.log]++[.pointer v.book]++[.bool v.full]) (cs:=v.cells) (o:=1) (n:=1) (v:= .pointer u) aeU sm rfl rfl;simpa[bq.cells,bq.list,Value.cells]using this
instance QS{v:bq}:aw v.cells 2 (.pointer v.log):=⟨by simp[bq.cells,bq.list,WY,aB]⟩
instance Q2{v:bq}{u:Option Addr}:bD v.cells 2 (.pointer u) {v with log:=u}.cells:=by have:=bD.fr ([.pointer v.state]++[.pointer v.d]) ([.pointer v.log]) ([.pointer v.book]++[.bool v.full]) (cs:=v.cells) (o:=2) (n:=1) (v:= .pointer u) aeU sm rfl rfl;simpa[bq.cells,bq.list,Value.cells]using this
instance QE{v:bq}:aw v.cells 3 (.pointer v.book):=⟨by simp[bq.cells,bq.list,WY,aB]⟩
instance Q1{v:bq}{u:Option Addr}:bD v.cells 3 (.pointer u) {v with book:=u}.cells:=by have:=bD.fr ([.pointer v.state]++[.pointer v.d]++[.pointer v.log]) ([.pointer v.book]) ([.bool v.full]) (cs:=v.cells) (o:=3) (n:=1) (v:= .pointer u) aeU sm rfl rfl;simpa[bq.cells,bq.list,Value.cells]using this
instance RE{v:bq}:aw v.cells 4 (.bool v.full):=⟨by simp[bq.cells,bq.list,WY,aB]⟩
instance R1{v:bq}{u:Bool}:bD v.cells 4 (.bool u) {v with full:=u}.cells:=by have:=bD.fr ([.pointer v.state]++[.pointer v.d]++[.pointer v.log]++[.pointer v.book]) ([.bool v.full]) ([]:List Value) (cs:=v.cells) (o:=4) (n:=1) (v:= .bool u) aeU sm rfl rfl;simpa[bq.cells,bq.list,Value.cells]using this
instance Qv{f0:Option Addr}{f1:Option Addr}{f2:Option Addr}{f3:Option Addr}{f4:Bool}:aw (bq.mk f0 f1 f2 f3 f4).cells 0 (.pointer f0):=inferInstanceAs (aw (bq.mk f0 f1 f2 f3 f4).cells 0 (.pointer (bq.mk f0 f1 f2 f3 f4).state))
instance Ry{f0:Option Addr}{f1:Option Addr}{f2:Option Addr}{f3:Option Addr}{f4:Bool}{u:Option Addr}:bD (bq.mk f0 f1 f2 f3 f4).cells 0 (.pointer u) (bq.mk u f1 f2 f3 f4).cells:=inferInstanceAs (bD (bq.mk f0 f1 f2 f3 f4).cells 0 (.pointer u) {(bq.mk f0 f1 f2 f3 f4)with state:=u}.cells)
instance RR{f0:Option Addr}{f1:Option Addr}{f2:Option Addr}{f3:Option Addr}{f4:Bool}:aw (bq.mk f0 f1 f2 f3 f4).cells 1 (.pointer f1):=inferInstanceAs (aw (bq.mk f0 f1 f2 f3 f4).cells 1 (.pointer (bq.mk f0 f1 f2 f3 f4).d))
instance PR{f0:Option Addr}{f1:Option Addr}{f2:Option Addr}{f3:Option Addr}{f4:Bool}{u:Option Addr}:bD (bq.mk f0 f1 f2 f3 f4).cells 1 (.pointer u) (bq.mk f0 u f2 f3 f4).cells:=inferInstanceAs (bD (bq.mk f0 f1 f2 f3 f4).cells 1 (.pointer u) {(bq.mk f0 f1 f2 f3 f4)with d:=u}.cells)
instance PI{f0:Option Addr}{f1:Option Addr}{f2:Option Addr}{f3:Option Addr}{f4:Bool}:aw (bq.mk f0 f1 f2 f3 f4).cells 2 (.pointer f2):=inferInstanceAs (aw (bq.mk f0 f1 f2 f3 f4).cells 2 (.pointer (bq.mk f0 f1 f2 f3 f4).log))
instance Qe{f0:Option Addr}{f1:Option Addr}{f2:Option Addr}{f3:Option Addr}{f4:Bool}{u:Option Addr}:bD (bq.mk f0 f1 f2 f3 f4).cells 2 (.pointer u) (bq.mk f0 f1 u f3 f4).cells:=inferInstanceAs (bD (bq.mk f0 f1 f2 f3 f4).cells 2 (.pointer u) {(bq.mk f0 f1 f2 f3 f4)with log:=u}.cells)
instance R7{f0:Option Addr}{f1:Option Addr}{f2:Option Addr}{f3:Option Addr}{f4:Bool}:aw (bq.mk f0 f1 f2 f3 f4).cells 3 (.pointer f3):=inferInstanceAs (aw (bq.mk f0 f1 f2 f3 f4).cells 3 (.pointer (bq.mk f0 f1 f2 f3 f4).book))
instance PU{f0:Option Addr}{f1:Option Addr}{f2:Option Addr}{f3:Option Addr}{f4:Bool}{u:Option Addr}:bD (bq.mk f0 f1 f2 f3 f4).cells 3 (.pointer u) (bq.mk f0 f1 f2 u f4).cells:=inferInstanceAs (bD (bq.mk f0 f1 f2 f3 f4).cells 3 (.pointer u) {(bq.mk f0 f1 f2 f3 f4)with book:=u}.cells)
instance Qc{f0:Option Addr}{f1:Option Addr}{f2:Option Addr}{f3:Option Addr}{f4:Bool}:aw (bq.mk f0 f1 f2 f3 f4).cells 4 (.bool f4):=inferInstanceAs (aw (bq.mk f0 f1 f2 f3 f4).cells 4 (.bool (bq.mk f0 f1 f2 f3 f4).full))
instance P4{f0:Option Addr}{f1:Option Addr}{f2:Option Addr}{f3:Option Addr}{f4:Bool}{u:Bool}:bD (bq.mk f0 f1 f2 f3 f4).cells 4 (.bool u) (bq.mk f0 f1 f2 f3 u).cells:=inferInstanceAs (bD (bq.mk f0 f1 f2 f3 f4).cells 4 (.bool u) {(bq.mk f0 f1 f2 f3 f4)with full:=u}.cells)
@[reducible] def bq.zero:bq:= {state:=none,d:=none,log:=none,book:=none,full:=false}
instance Sb:lT prog 84 (.agg bq.zero.cells):=⟨kr⟩
structure cQ where
 kind:Int
 l:Sl
 v:af
 w:aj
 x:ah
 n:Int
 p:cz
def cQ.list(v:cQ):List Value:=[.int .i64 v.kind]++([.slice v.l.a v.l.n v.l.c]++(v.v.list++(v.w.list++(v.x.list++([.int .i64 v.n]++(v.p.list))))))
def cQ.cells(v:cQ):Array Value:=v.list.toArray
theorem cQ.ae(v:cQ):v.list.length=147:=by simp[cQ.list,af.ae,aj.ae,ah.ae,cz.ae]
theorem cQ.aS(v:cQ):v.list.all Value.oneCell'=true:=by simp[cQ.list,Value.oneCell',af.aS,aj.aS,ah.aS,cz.aS]
instance Rb{v:cQ}:Cells v.cells 147:=Cells.list v.ae v.aS
theorem cQ.size(v:cQ):v.cells.size=147:=by simp[cQ.cells,cQ.ae]
instance Ru{v:cQ}:dh v.cells 0 147 v.cells:=⟨by have h:=v.size;apply XX<;>simp[h]⟩
instance QO{v u:cQ}:bD v.cells 0 (.agg u.cells) u.cells:=⟨by have:=fN [] v.list [] (v:= .agg u.cells) (o:=0) (n:=147) rfl v.ae u.size;simpa[cQ.cells,Value.cells]using this,by simp[Value.cells,cQ.size]⟩
instance Qa{v:cQ}:aw v.cells 0 (.int .i64 v.kind):=⟨by simp[cQ.cells,cQ.list,WY,aB,af.ae,aj.ae,ah.ae,cz.ae]⟩
instance PL{v:cQ}:aw v.cells 1 (.slice v.l.a v.l.n v.l.c):=⟨by simp[cQ.cells,cQ.list,WY,aB,af.ae,aj.ae,ah.ae,cz.ae]⟩
instance Q3{v:cQ}:dh v.cells 2 38 v.v.cells:=⟨by first|(simp[cQ.cells,cQ.list,af.ae,aj.ae,ah.ae,cz.ae];done)|(have:=fP ([.int .i64 v.kind]++[.slice v.l.a v.l.n v.l.c]) (v.v.list) (v.w.list++v.x.list++[.int .i64 v.n]++v.p.list) (o:=2) (n:=38) adq adq;simpa[cQ.cells,cQ.list,af.cells,aj.cells,ah.cells,cz.cells]using this)⟩
instance RD{v:cQ}:dh v.cells 40 68 v.w.cells:=⟨by first|(simp[cQ.cells,cQ.list,af.ae,aj.ae,ah.ae,cz.ae];done)|(have:=fP ([.int .i64 v.kind]++[.slice v.l.a v.l.n v.l.c]++v.v.list) (v.w.list) (v.x.list++[.int .i64 v.n]++v.p.list) (o:=40) (n:=68) adq adq;simpa[cQ.cells,cQ.list,af.cells,aj.cells,ah.cells,cz.cells]using this)⟩
instance Ql{v:cQ}:dh v.cells 108 35 v.x.cells:=⟨by first|(simp[cQ.cells,cQ.list,af.ae,aj.ae,ah.ae,cz.ae];done)|(have:=fP ([.int .i64 v.kind]++[.slice v.l.a v.l.n v.l.c]++v.v.list++v.w.list) (v.x.list) ([.int .i64 v.n]++v.p.list) (o:=108) (n:=35) adq adq;simpa[cQ.cells,cQ.list,af.cells,aj.cells,ah.cells,cz.cells]using this)⟩
instance Rl{v:cQ}:aw v.cells 141 (.slice v.x.batch.a v.x.batch.l.length v.x.batch.c):=⟨by simp[cQ.cells,cQ.list,ah.list,WY,aB,af.ae,aj.ae,ah.ae,cz.ae]⟩
instance QM{v:cQ}:aw v.cells 142 (.slice v.x.parts.a v.x.parts.ls.length v.x.parts.c):=⟨by simp[cQ.cells,cQ.list,ah.list,WY,aB,af.ae,aj.ae,ah.ae,cz.ae]⟩
instance P1{f0:Int}{f1:Sl}{f2:af}{f3:aj}{f4:ah}{f5:Int}{f6:cz}:aw (cQ.mk f0 f1 f2 f3 f4 f5 f6).cells 0 (.int .i64 f0):=inferInstanceAs (aw (cQ.mk f0 f1 f2 f3 f4 f5 f6).cells 0 (.int .i64 (cQ.mk f0 f1 f2 f3 f4 f5 f6).kind))
instance Qz{f0:Int}{f1:Sl}{f2:af}{f3:aj}{f4:ah}{f5:Int}{f6:cz}:aw (cQ.mk f0 f1 f2 f3 f4 f5 f6).cells 1 (.slice f1.a f1.n f1.c):=inferInstanceAs (aw (cQ.mk f0 f1 f2 f3 f4 f5 f6).cells 1 (.slice (cQ.mk f0 f1 f2 f3 f4 f5 f6).l.a (cQ.mk f0 f1 f2 f3 f4 f5 f6).l.n (cQ.mk f0 f1 f2 f3 f4 f5 f6).l.c))
instance PQ{f0:Int}{f2:af}{f3:aj}{f4:ah}{f5:Int}{f6:cz}{a:Option Addr}{n c:Nat}:aw (cQ.mk f0 (Sl.mk a n c) f2 f3 f4 f5 f6).cells 1 (.slice a n c):=inferInstanceAs (aw (cQ.mk f0 (Sl.mk a n c) f2 f3 f4 f5 f6).cells 1 (.slice (cQ.mk f0 (Sl.mk a n c) f2 f3 f4 f5 f6).l.a (cQ.mk f0 (Sl.mk a n c) f2 f3 f4 f5 f6).l.n (cQ.mk f0 (Sl.mk a n c) f2 f3 f4 f5 f6).l.c))
@[reducible] def cQ.zero:cQ:= {kind:=0,l:=⟨none,0,0⟩,v:=af.zero,w:=aj.zero,x:=ah.zero,n:=0,p:=cz.zero}
instance RL:lT prog 62 (.agg cQ.zero.cells):=⟨kr⟩
end Go.Proofs.YtmbfimckmfnnjaaGreatDoor
