/- Steps of the proof of a law. -/
import Derived.Test.YtmbfimckmfnnjaaGreatDoorQ05
set_option maxRecDepth 100000
set_option maxHeartbeats 1000000
set_option linter.unusedSimpArgs false
set_option linter.unusedVariables false
namespace Go.Proofs.YtmbfimckmfnnjaaGreatDoor
open Go.RowKit Go.Sx Go.Proofs.Tryz
structure ca where
 kind:Int
 name:ByteArray
 to:ByteArray
 b:BS
def ca.list(v:ca):List Value:=[.int .i64 v.kind]++([.string v.name]++([.string v.to]++([.slice v.b.a v.b.l.length v.b.c])))
def ca.cells(v:ca):Array Value:=v.list.toArray
theorem ca.ae(v:ca):v.list.length=4:=by simp[ca.list]
theorem ca.aS(v:ca):v.list.all Value.oneCell'=true:=by simp[ca.list,Value.oneCell']
instance WI{v:ca}:Cells v.cells 4:=Cells.list v.ae v.aS
theorem ca.size(v:ca):v.cells.size=4:=by simp[ca.cells,ca.ae]
instance Ve{v:ca}:dh v.cells 0 4 v.cells:=⟨by have h:=v.size;apply XX<;>simp[h]⟩
instance Sg{v u:ca}:bD v.cells 0 (.agg u.cells) u.cells:=⟨by have:=fN [] v.list [] (v:= .agg u.cells) (o:=0) (n:=4) rfl v.ae u.size;simpa[ca.cells,Value.cells]using this,by simp[Value.cells,ca.size]⟩
instance SY{v:ca}:aw v.cells 0 (.int .i64 v.kind):=⟨by simp[ca.cells,ca.list,WY,aB]⟩
instance Vk{v:ca}{u:Int}:bD v.cells 0 (.int .i64 u) {v with kind:=u}.cells:=by have:=bD.fr ([]:List Value) ([.int .i64 v.kind]) ([.string v.name]++[.string v.to]++[.slice v.b.a v.b.l.length v.b.c]) (cs:=v.cells) (o:=0) (n:=1) (v:= .int .i64 u) afV sm rfl rfl;simpa[ca.cells,ca.list,Value.cells]using this
instance TO{v:ca}:aw v.cells 1 (.string v.name):=⟨by simp[ca.cells,ca.list,WY,aB]⟩
instance Vs{v:ca}{u:ByteArray}:bD v.cells 1 (.string u) {v with name:=u}.cells:=by have:=bD.fr ([.int .i64 v.kind]) ([.string v.name]) ([.string v.to]++[.slice v.b.a v.b.l.length v.b.c]) (cs:=v.cells) (o:=1) (n:=1) (v:= .string u) afV sm rfl rfl;simpa[ca.cells,ca.list,Value.cells]using this
instance UC{v:ca}:aw v.cells 2 (.string v.to):=⟨by simp[ca.cells,ca.list,WY,aB]⟩
instance SF{v:ca}{u:ByteArray}:bD v.cells 2 (.string u) {v with to:=u}.cells:=by have:=bD.fr ([.int .i64 v.kind]++[.string v.name]) ([.string v.to]) ([.slice v.b.a v.b.l.length v.b.c]) (cs:=v.cells) (o:=2) (n:=1) (v:= .string u) afV sm rfl rfl;simpa[ca.cells,ca.list,Value.cells]using this
instance Sk{v:ca}:aw v.cells 3 (.slice v.b.a v.b.l.length v.b.c):=⟨by simp[ca.cells,ca.list,WY,aB]⟩
instance Tm{v:ca}{a:Option Addr}{l:List UInt8}{c:Nat}:bD v.cells 3 (.slice a l.length c) {v with b:=⟨a,c,l⟩}.cells:=by have:=bD.fr ([.int .i64 v.kind]++[.string v.name]++[.string v.to]) ([.slice v.b.a v.b.l.length v.b.c]) ([]:List Value) (cs:=v.cells) (o:=3) (n:=1) (v:= .slice a l.length c) afV sm rfl rfl;simpa[ca.cells,ca.list,Value.cells]using this
instance U2{f0:Int}{f1:ByteArray}{f2:ByteArray}{f3:BS}{u:Int}:bD (ca.mk f0 f1 f2 f3).cells 0 (.int .i64 u) (ca.mk u f1 f2 f3).cells:=inferInstanceAs (bD (ca.mk f0 f1 f2 f3).cells 0 (.int .i64 u) {(ca.mk f0 f1 f2 f3)with kind:=u}.cells)
instance U4{f0:Int}{f1:ByteArray}{f2:ByteArray}{f3:BS}{u:ByteArray}:bD (ca.mk f0 f1 f2 f3).cells 1 (.string u) (ca.mk f0 u f2 f3).cells:=inferInstanceAs (bD (ca.mk f0 f1 f2 f3).cells 1 (.string u) {(ca.mk f0 f1 f2 f3)with name:=u}.cells)
instance Tx{f0:Int}{f1:ByteArray}{f2:ByteArray}{f3:BS}{u:ByteArray}:bD (ca.mk f0 f1 f2 f3).cells 2 (.string u) (ca.mk f0 f1 u f3).cells:=inferInstanceAs (bD (ca.mk f0 f1 f2 f3).cells 2 (.string u) {(ca.mk f0 f1 f2 f3)with to:=u}.cells)
instance Te{f0:Int}{f1:ByteArray}{f2:ByteArray}{f3:BS}{a:Option Addr}{c:Nat}{l:List UInt8}:bD (ca.mk f0 f1 f2 f3).cells 3 (.slice a l.length c) (ca.mk f0 f1 f2 (BS.mk a c l)).cells:=inferInstanceAs (bD (ca.mk f0 f1 f2 f3).cells 3 (.slice a l.length c) {(ca.mk f0 f1 f2 f3)with b:=(BS.mk a c l)}.cells)
@[reducible] def ca.zero:ca:= {kind:=0,name:=⟨#[]⟩,to:=⟨#[]⟩,b:=⟨none,0,[]⟩}
instance Va:lT prog 121 (.agg ca.zero.cells):=⟨kr⟩
structure bu where
 room:Int
 synced:Option Nat
 now:Option Nat
 pending:Sl
 dE:Int
 down:Bool
def bu.list(v:bu):List Value:=[.int .i64 v.room]++([.map v.synced]++([.map v.now]++([.slice v.pending.a v.pending.n v.pending.c]++([.int .i64 v.dE]++([.bool v.down])))))
def bu.cells(v:bu):Array Value:=v.list.toArray
theorem bu.ae(v:bu):v.list.length=6:=by simp[bu.list]
theorem bu.aS(v:bu):v.list.all Value.oneCell'=true:=by simp[bu.list,Value.oneCell']
theorem bu.size(v:bu):v.cells.size=6:=by simp[bu.cells,bu.ae]
instance SN{v:bu}:aw v.cells 0 (.int .i64 v.room):=⟨by simp[bu.cells,bu.list,WY,aB]⟩
instance Si{v:bu}{u:Int}:bD v.cells 0 (.int .i64 u) {v with room:=u}.cells:=by have:=bD.fr ([]:List Value) ([.int .i64 v.room]) ([.map v.synced]++[.map v.now]++[.slice v.pending.a v.pending.n v.pending.c]++[.int .i64 v.dE]++[.bool v.down]) (cs:=v.cells) (o:=0) (n:=1) (v:= .int .i64 u) aeb sm rfl rfl;simpa[bu.cells,bu.list,Value.cells]using this
instance SU{v:bu}:aw v.cells 1 (.map v.synced):=⟨by simp[bu.cells,bu.list,WY,aB]⟩
instance Ut{v:bu}{u:Option Nat}:bD v.cells 1 (.map u) {v with synced:=u}.cells:=by have:=bD.fr ([.int .i64 v.room]) ([.map v.synced]) ([.map v.now]++[.slice v.pending.a v.pending.n v.pending.c]++[.int .i64 v.dE]++[.bool v.down]) (cs:=v.cells) (o:=1) (n:=1) (v:= .map u) aeb sm rfl rfl;simpa[bu.cells,bu.list,Value.cells]using this
instance U7{v:bu}:aw v.cells 2 (.map v.now):=⟨by simp[bu.cells,bu.list,WY,aB]⟩
instance Ua{v:bu}{u:Option Nat}:bD v.cells 2 (.map u) {v with now:=u}.cells:=by have:=bD.fr ([.int .i64 v.room]++[.map v.synced]) ([.map v.now]) ([.slice v.pending.a v.pending.n v.pending.c]++[.int .i64 v.dE]++[.bool v.down]) (cs:=v.cells) (o:=2) (n:=1) (v:= .map u) aeb sm rfl rfl;simpa[bu.cells,bu.list,Value.cells]using this
instance TA{v:bu}:aw v.cells 3 (.slice v.pending.a v.pending.n v.pending.c):=⟨by simp[bu.cells,bu.list,WY,aB]⟩
instance S1{v:bu}{a:Option Addr}{n c:Nat}:bD v.cells 3 (.slice a n c) {v with pending:=⟨a,n,c⟩}.cells:=by have:=bD.fr ([.int .i64 v.room]++[.map v.synced]++[.map v.now]) ([.slice v.pending.a v.pending.n v.pending.c]) ([.int .i64 v.dE]++[.bool v.down]) (cs:=v.cells) (o:=3) (n:=1) (v:= .slice a n c) aeb sm rfl rfl;simpa[bu.cells,bu.list,Value.cells]using this
instance VP{v:bu}:aw v.cells 4 (.int .i64 v.dE):=⟨by simp[bu.cells,bu.list,WY,aB]⟩
instance Sn{v:bu}{u:Int}:bD v.cells 4 (.int .i64 u) {v with dE:=u}.cells:=by have:=bD.fr ([.int .i64 v.room]++[.map v.synced]++[.map v.now]++[.slice v.pending.a v.pending.n v.pending.c]) ([.int .i64 v.dE]) ([.bool v.down]) (cs:=v.cells) (o:=4) (n:=1) (v:= .int .i64 u) aeb sm rfl rfl;simpa[bu.cells,bu.list,Value.cells]using this
instance Tu{v:bu}:aw v.cells 5 (.bool v.down):=⟨by simp[bu.cells,bu.list,WY,aB]⟩
instance Wb{v:bu}{u:Bool}:bD v.cells 5 (.bool u) {v with down:=u}.cells:=by have:=bD.fr ([.int .i64 v.room]++[.map v.synced]++[.map v.now]++[.slice v.pending.a v.pending.n v.pending.c]++[.int .i64 v.dE]) ([.bool v.down]) ([]:List Value) (cs:=v.cells) (o:=5) (n:=1) (v:= .bool u) aeb sm rfl rfl;simpa[bu.cells,bu.list,Value.cells]using this
instance TZ{f0:Int}{f1:Option Nat}{f2:Option Nat}{f3:Sl}{f4:Int}{f5:Bool}:aw (bu.mk f0 f1 f2 f3 f4 f5).cells 0 (.int .i64 f0):=inferInstanceAs (aw (bu.mk f0 f1 f2 f3 f4 f5).cells 0 (.int .i64 (bu.mk f0 f1 f2 f3 f4 f5).room))
instance UG{f0:Int}{f1:Option Nat}{f2:Option Nat}{f3:Sl}{f4:Int}{f5:Bool}{u:Int}:bD (bu.mk f0 f1 f2 f3 f4 f5).cells 0 (.int .i64 u) (bu.mk u f1 f2 f3 f4 f5).cells:=inferInstanceAs (bD (bu.mk f0 f1 f2 f3 f4 f5).cells 0 (.int .i64 u) {(bu.mk f0 f1 f2 f3 f4 f5)with room:=u}.cells)
instance T7{f0:Int}{f1:Option Nat}{f2:Option Nat}{f3:Sl}{f4:Int}{f5:Bool}:aw (bu.mk f0 f1 f2 f3 f4 f5).cells 1 (.map f1):=inferInstanceAs (aw (bu.mk f0 f1 f2 f3 f4 f5).cells 1 (.map (bu.mk f0 f1 f2 f3 f4 f5).synced))
instance To{f0:Int}{f1:Option Nat}{f2:Option Nat}{f3:Sl}{f4:Int}{f5:Bool}{u:Option Nat}:bD (bu.mk f0 f1 f2 f3 f4 f5).cells 1 (.map u) (bu.mk f0 u f2 f3 f4 f5).cells:=inferInstanceAs (bD (bu.mk f0 f1 f2 f3 f4 f5).cells 1 (.map u) {(bu.mk f0 f1 f2 f3 f4 f5)with synced:=u}.cells)
instance Vd{f0:Int}{f1:Option Nat}{f2:Option Nat}{f3:Sl}{f4:Int}{f5:Bool}:aw (bu.mk f0 f1 f2 f3 f4 f5).cells 2 (.map f2):=inferInstanceAs (aw (bu.mk f0 f1 f2 f3 f4 f5).cells 2 (.map (bu.mk f0 f1 f2 f3 f4 f5).now))
instance Vv{f0:Int}{f1:Option Nat}{f2:Option Nat}{f3:Sl}{f4:Int}{f5:Bool}{u:Option Nat}:bD (bu.mk f0 f1 f2 f3 f4 f5).cells 2 (.map u) (bu.mk f0 f1 u f3 f4 f5).cells:=inferInstanceAs (bD (bu.mk f0 f1 f2 f3 f4 f5).cells 2 (.map u) {(bu.mk f0 f1 f2 f3 f4 f5)with now:=u}.cells)
instance Tc{f0:Int}{f1:Option Nat}{f2:Option Nat}{f3:Sl}{f4:Int}{f5:Bool}:aw (bu.mk f0 f1 f2 f3 f4 f5).cells 3 (.slice f3.a f3.n f3.c):=inferInstanceAs (aw (bu.mk f0 f1 f2 f3 f4 f5).cells 3 (.slice (bu.mk f0 f1 f2 f3 f4 f5).pending.a (bu.mk f0 f1 f2 f3 f4 f5).pending.n (bu.mk f0 f1 f2 f3 f4 f5).pending.c))
instance V7{f0:Int}{f1:Option Nat}{f2:Option Nat}{f4:Int}{f5:Bool}{a:Option Addr}{n c:Nat}:aw (bu.mk f0 f1 f2 (Sl.mk a n c) f4 f5).cells 3 (.slice a n c):=inferInstanceAs (aw (bu.mk f0 f1 f2 (Sl.mk a n c) f4 f5).cells 3 (.slice (bu.mk f0 f1 f2 (Sl.mk a n c) f4 f5).pending.a (bu.mk f0 f1 f2 (Sl.mk a n c) f4 f5).pending.n (bu.mk f0 f1 f2 (Sl.mk a n c) f4 f5).pending.c))
instance VE{f0:Int}{f1:Option Nat}{f2:Option Nat}{f3:Sl}{f4:Int}{f5:Bool}{a:Option Addr}{n c:Nat}:bD (bu.mk f0 f1 f2 f3 f4 f5).cells 3 (.slice a n c) (bu.mk f0 f1 f2 (Sl.mk a n c) f4 f5).cells:=inferInstanceAs (bD (bu.mk f0 f1 f2 f3 f4 f5).cells 3 (.slice a n c) {(bu.mk f0 f1 f2 f3 f4 f5)with pending:=(Sl.mk a n c)}.cells)
instance Sz{f0:Int}{f1:Option Nat}{f2:Option Nat}{f3:Sl}{f4:Int}{f5:Bool}:aw (bu.mk f0 f1 f2 f3 f4 f5).cells 4 (.int .i64 f4):=inferInstanceAs (aw (bu.mk f0 f1 f2 f3 f4 f5).cells 4 (.int .i64 (bu.mk f0 f1 f2 f3 f4 f5).dE))
instance Tj{f0:Int}{f1:Option Nat}{f2:Option Nat}{f3:Sl}{f4:Int}{f5:Bool}{u:Int}:bD (bu.mk f0 f1 f2 f3 f4 f5).cells 4 (.int .i64 u) (bu.mk f0 f1 f2 f3 u f5).cells:=inferInstanceAs (bD (bu.mk f0 f1 f2 f3 f4 f5).cells 4 (.int .i64 u) {(bu.mk f0 f1 f2 f3 f4 f5)with dE:=u}.cells)
instance TC{f0:Int}{f1:Option Nat}{f2:Option Nat}{f3:Sl}{f4:Int}{f5:Bool}:aw (bu.mk f0 f1 f2 f3 f4 f5).cells 5 (.bool f5):=inferInstanceAs (aw (bu.mk f0 f1 f2 f3 f4 f5).cells 5 (.bool (bu.mk f0 f1 f2 f3 f4 f5).down))
instance U8{f0:Int}{f1:Option Nat}{f2:Option Nat}{f3:Sl}{f4:Int}{f5:Bool}{u:Bool}:bD (bu.mk f0 f1 f2 f3 f4 f5).cells 5 (.bool u) (bu.mk f0 f1 f2 f3 f4 u).cells:=inferInstanceAs (bD (bu.mk f0 f1 f2 f3 f4 f5).cells 5 (.bool u) {(bu.mk f0 f1 f2 f3 f4 f5)with down:=u}.cells)
@[reducible] def bu.zero:bu:= {room:=0,synced:=none,now:=none,pending:=⟨none,0,0⟩,dE:=0,down:=false}
instance UU:lT prog 77 (.agg bu.zero.cells):=⟨kr⟩
structure cz where
 gQ:Int
 dP:Int
 cut:Int
def cz.list(v:cz):List Value:=[.int .u64 v.gQ]++([.int .i64 v.dP]++([.int .i64 v.cut]))
def cz.cells(v:cz):Array Value:=v.list.toArray
theorem cz.ae(v:cz):v.list.length=3:=by simp[cz.list]
theorem cz.aS(v:cz):v.list.all Value.oneCell'=true:=by simp[cz.list,Value.oneCell']
instance Ub{v:cz}:Cells v.cells 3:=Cells.list v.ae v.aS
theorem cz.size(v:cz):v.cells.size=3:=by simp[cz.cells,cz.ae]
instance Tg{v:cz}:dh v.cells 0 3 v.cells:=⟨by have h:=v.size;apply XX<;>simp[h]⟩
instance Uz{v:cz}:aw v.cells 0 (.int .u64 v.gQ):=⟨by simp[cz.cells,cz.list,WY,aB]⟩
instance TH{v:cz}:aw v.cells 1 (.int .i64 v.dP):=⟨by simp[cz.cells,cz.list,WY,aB]⟩
instance Vc{v:cz}{u:Int}:bD v.cells 1 (.int .i64 u) {v with dP:=u}.cells:=by have:=bD.fr ([.int .u64 v.gQ]) ([.int .i64 v.dP]) ([.int .i64 v.cut]) (cs:=v.cells) (o:=1) (n:=1) (v:= .int .i64 u) (by simp[cz.cells,cz.list]) sm rfl rfl;simpa[cz.cells,cz.list,Value.cells]using this
instance Vp{v:cz}:aw v.cells 2 (.int .i64 v.cut):=⟨by simp[cz.cells,cz.list,WY,aB]⟩
instance Wn{f0:Int}{f1:Int}{f2:Int}:aw (cz.mk f0 f1 f2).cells 0 (.int .u64 f0):=inferInstanceAs (aw (cz.mk f0 f1 f2).cells 0 (.int .u64 (cz.mk f0 f1 f2).gQ))
instance SO{f0:Int}{f1:Int}{f2:Int}:aw (cz.mk f0 f1 f2).cells 1 (.int .i64 f1):=inferInstanceAs (aw (cz.mk f0 f1 f2).cells 1 (.int .i64 (cz.mk f0 f1 f2).dP))
instance Tt{f0:Int}{f1:Int}{f2:Int}{u:Int}:bD (cz.mk f0 f1 f2).cells 1 (.int .i64 u) (cz.mk f0 u f2).cells:=inferInstanceAs (bD (cz.mk f0 f1 f2).cells 1 (.int .i64 u) {(cz.mk f0 f1 f2)with dP:=u}.cells)
instance S6{f0:Int}{f1:Int}{f2:Int}:aw (cz.mk f0 f1 f2).cells 2 (.int .i64 f2):=inferInstanceAs (aw (cz.mk f0 f1 f2).cells 2 (.int .i64 (cz.mk f0 f1 f2).cut))
@[reducible] def cz.zero:cz:= {gQ:=0,dP:=0,cut:=0}
instance Qn:lT prog 60 (.agg cz.zero.cells):=⟨kr⟩
structure cH where
 d:Option Addr
 jU:ByteArray
 av:Sl
 gi:Int
 next:Int
 begun:Bool
def cH.list(v:cH):List Value:=[.pointer v.d]++([.string v.jU]++([.slice v.av.a v.av.n v.av.c]++([.int .i64 v.gi]++([.int .u64 v.next]++([.bool v.begun])))))
def cH.cells(v:cH):Array Value:=v.list.toArray
theorem cH.ae(v:cH):v.list.length=6:=by simp[cH.list]
theorem cH.aS(v:cH):v.list.all Value.oneCell'=true:=by simp[cH.list,Value.oneCell']
theorem cH.size(v:cH):v.cells.size=6:=by simp[cH.cells,cH.ae]
instance QB{v:cH}:aw v.cells 0 (.pointer v.d):=⟨by simp[cH.cells,cH.list,WY,aB]⟩
instance P9{v:cH}{u:Option Addr}:bD v.cells 0 (.pointer u) {v with d:=u}.cells:=by have:=bD.fr ([]:List Value) ([.pointer v.d]) ([.string v.jU]++[.slice v.av.a v.av.n v.av.c]++[.int .i64 v.gi]++[.int .u64 v.next]++[.bool v.begun]) (cs:=v.cells) (o:=0) (n:=1) (v:= .pointer u) aec sm rfl rfl;simpa[cH.cells,cH.list,Value.cells]using this
instance Rw{v:cH}:aw v.cells 1 (.string v.jU):=⟨by simp[cH.cells,cH.list,WY,aB]⟩
instance Qg{v:cH}{u:ByteArray}:bD v.cells 1 (.string u) {v with jU:=u}.cells:=by have:=bD.fr ([.pointer v.d]) ([.string v.jU]) ([.slice v.av.a v.av.n v.av.c]++[.int .i64 v.gi]++[.int .u64 v.next]++[.bool v.begun]) (cs:=v.cells) (o:=1) (n:=1) (v:= .string u) aec sm rfl rfl;simpa[cH.cells,cH.list,Value.cells]using this
instance QT{v:cH}:aw v.cells 2 (.slice v.av.a v.av.n v.av.c):=⟨by simp[cH.cells,cH.list,WY,aB]⟩
instance Rt{v:cH}{a:Option Addr}{n c:Nat}:bD v.cells 2 (.slice a n c) {v with av:=⟨a,n,c⟩}.cells:=by have:=bD.fr ([.pointer v.d]++[.string v.jU]) ([.slice v.av.a v.av.n v.av.c]) ([.int .i64 v.gi]++[.int .u64 v.next]++[.bool v.begun]) (cs:=v.cells) (o:=2) (n:=1) (v:= .slice a n c) aec sm rfl rfl;simpa[cH.cells,cH.list,Value.cells]using this
instance Qf{v:cH}:aw v.cells 3 (.int .i64 v.gi):=⟨by simp[cH.cells,cH.list,WY,aB]⟩
instance PK{v:cH}{u:Int}:bD v.cells 3 (.int .i64 u) {v with gi:=u}.cells:=by have:=bD.fr ([.pointer v.d]++[.string v.jU]++[.slice v.av.a v.av.n v.av.c]) ([.int .i64 v.gi]) ([.int .u64 v.next]++[.bool v.begun]) (cs:=v.cells) (o:=3) (n:=1) (v:= .int .i64 u) aec sm rfl rfl;simpa[cH.cells,cH.list,Value.cells]using this
instance P6{v:cH}:aw v.cells 4 (.int .u64 v.next):=⟨by simp[cH.cells,cH.list,WY,aB]⟩
instance Qd{v:cH}{u:Int}:bD v.cells 4 (.int .u64 u) {v with next:=u}.cells:=by have:=bD.fr ([.pointer v.d]++[.string v.jU]++[.slice v.av.a v.av.n v.av.c]++[.int .i64 v.gi]) ([.int .u64 v.next]) ([.bool v.begun]) (cs:=v.cells) (o:=4) (n:=1) (v:= .int .u64 u) aec sm rfl rfl;simpa[cH.cells,cH.list,Value.cells]using this
instance RY{v:cH}:aw v.cells 5 (.bool v.begun):=⟨by simp[cH.cells,cH.list,WY,aB]⟩
instance Q8{v:cH}{u:Bool}:bD v.cells 5 (.bool u) {v with begun:=u}.cells:=by have:=bD.fr ([.pointer v.d]++[.string v.jU]++[.slice v.av.a v.av.n v.av.c]++[.int .i64 v.gi]++[.int .u64 v.next]) ([.bool v.begun]) ([]:List Value) (cs:=v.cells) (o:=5) (n:=1) (v:= .bool u) aec sm rfl rfl;simpa[cH.cells,cH.list,Value.cells]using this
instance R3{f0:Option Addr}{f1:ByteArray}{f2:Sl}{f3:Int}{f4:Int}{f5:Bool}:aw (cH.mk f0 f1 f2 f3 f4 f5).cells 0 (.pointer f0):=inferInstanceAs (aw (cH.mk f0 f1 f2 f3 f4 f5).cells 0 (.pointer (cH.mk f0 f1 f2 f3 f4 f5).d))
instance QK{f0:Option Addr}{f1:ByteArray}{f2:Sl}{f3:Int}{f4:Int}{f5:Bool}{u:Option Addr}:bD (cH.mk f0 f1 f2 f3 f4 f5).cells 0 (.pointer u) (cH.mk u f1 f2 f3 f4 f5).cells:=inferInstanceAs (bD (cH.mk f0 f1 f2 f3 f4 f5).cells 0 (.pointer u) {(cH.mk f0 f1 f2 f3 f4 f5)with d:=u}.cells)
instance Rc{f0:Option Addr}{f1:ByteArray}{f2:Sl}{f3:Int}{f4:Int}{f5:Bool}:aw (cH.mk f0 f1 f2 f3 f4 f5).cells 1 (.string f1):=inferInstanceAs (aw (cH.mk f0 f1 f2 f3 f4 f5).cells 1 (.string (cH.mk f0 f1 f2 f3 f4 f5).jU))
instance P5{f0:Option Addr}{f1:ByteArray}{f2:Sl}{f3:Int}{f4:Int}{f5:Bool}{u:ByteArray}:bD (cH.mk f0 f1 f2 f3 f4 f5).cells 1 (.string u) (cH.mk f0 u f2 f3 f4 f5).cells:=inferInstanceAs (bD (cH.mk f0 f1 f2 f3 f4 f5).cells 1 (.string u) {(cH.mk f0 f1 f2 f3 f4 f5)with jU:=u}.cells)
instance Rp{f0:Option Addr}{f1:ByteArray}{f2:Sl}{f3:Int}{f4:Int}{f5:Bool}:aw (cH.mk f0 f1 f2 f3 f4 f5).cells 2 (.slice f2.a f2.n f2.c):=inferInstanceAs (aw (cH.mk f0 f1 f2 f3 f4 f5).cells 2 (.slice (cH.mk f0 f1 f2 f3 f4 f5).av.a (cH.mk f0 f1 f2 f3 f4 f5).av.n (cH.mk f0 f1 f2 f3 f4 f5).av.c))
instance P8{f0:Option Addr}{f1:ByteArray}{f3:Int}{f4:Int}{f5:Bool}{a:Option Addr}{n c:Nat}:aw (cH.mk f0 f1 (Sl.mk a n c) f3 f4 f5).cells 2 (.slice a n c):=inferInstanceAs (aw (cH.mk f0 f1 (Sl.mk a n c) f3 f4 f5).cells 2 (.slice (cH.mk f0 f1 (Sl.mk a n c) f3 f4 f5).av.a (cH.mk f0 f1 (Sl.mk a n c) f3 f4 f5).av.n (cH.mk f0 f1 (Sl.mk a n c) f3 f4 f5).av.c))
instance PY{f0:Option Addr}{f1:ByteArray}{f2:Sl}{f3:Int}{f4:Int}{f5:Bool}{a:Option Addr}{n c:Nat}:bD (cH.mk f0 f1 f2 f3 f4 f5).cells 2 (.slice a n c) (cH.mk f0 f1 (Sl.mk a n c) f3 f4 f5).cells:=inferInstanceAs (bD (cH.mk f0 f1 f2 f3 f4 f5).cells 2 (.slice a n c) {(cH.mk f0 f1 f2 f3 f4 f5)with av:=(Sl.mk a n c)}.cells)
instance RT{f0:Option Addr}{f1:ByteArray}{f2:Sl}{f3:Int}{f4:Int}{f5:Bool}:aw (cH.mk f0 f1 f2 f3 f4 f5).cells 3 (.int .i64 f3):=inferInstanceAs (aw (cH.mk f0 f1 f2 f3 f4 f5).cells 3 (.int .i64 (cH.mk f0 f1 f2 f3 f4 f5).gi))
instance RC{f0:Option Addr}{f1:ByteArray}{f2:Sl}{f3:Int}{f4:Int}{f5:Bool}{u:Int}:bD (cH.mk f0 f1 f2 f3 f4 f5).cells 3 (.int .i64 u) (cH.mk f0 f1 f2 u f4 f5).cells:=inferInstanceAs (bD (cH.mk f0 f1 f2 f3 f4 f5).cells 3 (.int .i64 u) {(cH.mk f0 f1 f2 f3 f4 f5)with gi:=u}.cells)
instance QD{f0:Option Addr}{f1:ByteArray}{f2:Sl}{f3:Int}{f4:Int}{f5:Bool}:aw (cH.mk f0 f1 f2 f3 f4 f5).cells 4 (.int .u64 f4):=inferInstanceAs (aw (cH.mk f0 f1 f2 f3 f4 f5).cells 4 (.int .u64 (cH.mk f0 f1 f2 f3 f4 f5).next))
instance QV{f0:Option Addr}{f1:ByteArray}{f2:Sl}{f3:Int}{f4:Int}{f5:Bool}{u:Int}:bD (cH.mk f0 f1 f2 f3 f4 f5).cells 4 (.int .u64 u) (cH.mk f0 f1 f2 f3 u f5).cells:=inferInstanceAs (bD (cH.mk f0 f1 f2 f3 f4 f5).cells 4 (.int .u64 u) {(cH.mk f0 f1 f2 f3 f4 f5)with next:=u}.cells)
instance RZ{f0:Option Addr}{f1:ByteArray}{f2:Sl}{f3:Int}{f4:Int}{f5:Bool}:aw (cH.mk f0 f1 f2 f3 f4 f5).cells 5 (.bool f5):=inferInstanceAs (aw (cH.mk f0 f1 f2 f3 f4 f5).cells 5 (.bool (cH.mk f0 f1 f2 f3 f4 f5).begun))
instance Rq{f0:Option Addr}{f1:ByteArray}{f2:Sl}{f3:Int}{f4:Int}{f5:Bool}{u:Bool}:bD (cH.mk f0 f1 f2 f3 f4 f5).cells 5 (.bool u) (cH.mk f0 f1 f2 f3 f4 u).cells:=inferInstanceAs (bD (cH.mk f0 f1 f2 f3 f4 f5).cells 5 (.bool u) {(cH.mk f0 f1 f2 f3 f4 f5)with begun:=u}.cells)
@[reducible] def cH.zero:cH:= {d:=none,jU:=⟨#[]⟩,av:=⟨none,0,0⟩,gi:=0,next:=0,begun:=false}
instance QN:lT prog 147 (.agg cH.zero.cells):=⟨kr⟩
end Go.Proofs.YtmbfimckmfnnjaaGreatDoor
