/- Steps of the proof of a law. -/
import Derived.Test.YtmbfimckmfnnjaaGreatDoorQ06
import Derived.Test.YtmbfimckmfnnjaaGreatDoorQ07
set_option maxRecDepth 100000
set_option maxHeartbeats 1000000
set_option linter.unusedSimpArgs false
set_option linter.unusedVariables false
namespace Go.Proofs.YtmbfimckmfnnjaaGreatDoor
open Go.RowKit Go.Sx Go.Proofs.Tryz
section
structure ax where
 there:Bool
 n:Int
def ax.list(v:ax):List Value:=[.bool v.there]++([.int .i64 v.n])
def ax.cells(v:ax):Array Value:=v.list.toArray
theorem ax.ae(v:ax):v.list.length=2:=by simp[ax.list]
theorem ax.aS(v:ax):v.list.all Value.oneCell'=true:=by simp[ax.list,Value.oneCell']
instance Ws{v:ax}:Cells v.cells 2:=Cells.list v.ae v.aS
theorem ax.size(v:ax):v.cells.size=2:=by simp[ax.cells,ax.ae]
instance Wr{v:ax}:dh v.cells 0 2 v.cells:=⟨by have h:=v.size;apply XX<;>simp[h]⟩
instance Vh{v u:ax}:bD v.cells 0 (.agg u.cells) u.cells:=⟨by have:=fN [] v.list [] (v:= .agg u.cells) (o:=0) (n:=2) rfl v.ae u.size;simpa[ax.cells,Value.cells]using this,by simp[Value.cells,ax.size]⟩
instance Tv{v:ax}:aw v.cells 0 (.bool v.there):=⟨by simp[ax.cells,ax.list,WY,aB]⟩
instance VN{v:ax}{u:Bool}:bD v.cells 0 (.bool u) {v with there:=u}.cells:=by have:=bD.fr ([]:List Value) ([.bool v.there]) ([.int .i64 v.n]) (cs:=v.cells) (o:=0) (n:=1) (v:= .bool u) (by simp[ax.cells,ax.list]) sm rfl rfl;simpa[ax.cells,ax.list,Value.cells]using this
instance Sq{v:ax}:aw v.cells 1 (.int .i64 v.n):=⟨by simp[ax.cells,ax.list,WY,aB]⟩
instance VH{v:ax}{u:Int}:bD v.cells 1 (.int .i64 u) {v with n:=u}.cells:=by have:=bD.fr ([.bool v.there]) ([.int .i64 v.n]) ([]:List Value) (cs:=v.cells) (o:=1) (n:=1) (v:= .int .i64 u) (by simp[ax.cells,ax.list]) sm rfl rfl;simpa[ax.cells,ax.list,Value.cells]using this
instance VC{f0:Bool}{f1:Int}:aw (ax.mk f0 f1).cells 0 (.bool f0):=inferInstanceAs (aw (ax.mk f0 f1).cells 0 (.bool (ax.mk f0 f1).there))
instance UE{f0:Bool}{f1:Int}{u:Bool}:bD (ax.mk f0 f1).cells 0 (.bool u) (ax.mk u f1).cells:=inferInstanceAs (bD (ax.mk f0 f1).cells 0 (.bool u) {(ax.mk f0 f1)with there:=u}.cells)
instance Up{f0:Bool}{f1:Int}:aw (ax.mk f0 f1).cells 1 (.int .i64 f1):=inferInstanceAs (aw (ax.mk f0 f1).cells 1 (.int .i64 (ax.mk f0 f1).n))
instance Us{f0:Bool}{f1:Int}{u:Int}:bD (ax.mk f0 f1).cells 1 (.int .i64 u) (ax.mk f0 u).cells:=inferInstanceAs (bD (ax.mk f0 f1).cells 1 (.int .i64 u) {(ax.mk f0 f1)with n:=u}.cells)
@[reducible] def ax.zero:ax:= {there:=false,n:=0}
instance Sf:lT prog 36 (.agg ax.zero.cells):=⟨kr⟩
theorem ax.dk(x y:ax):x=y↔x.there=y.there/\x.n=y.n:=adW
instance Ui:DecidableEq ax:=fun x y=>decidable_of_iff _ (ax.dk x y).symm
structure cI where
 oK:Bool
 n:Int
def cI.list(v:cI):List Value:=[.bool v.oK]++([.int .i64 v.n])
def cI.cells(v:cI):Array Value:=v.list.toArray
theorem cI.ae(v:cI):v.list.length=2:=by simp[cI.list]
theorem cI.aS(v:cI):v.list.all Value.oneCell'=true:=by simp[cI.list,Value.oneCell']
instance VQ{v:cI}:Cells v.cells 2:=Cells.list v.ae v.aS
theorem cI.size(v:cI):v.cells.size=2:=by simp[cI.cells,cI.ae]
instance Uf{v:cI}:dh v.cells 0 2 v.cells:=⟨by have h:=v.size;apply XX<;>simp[h]⟩
instance V3{v u:cI}:bD v.cells 0 (.agg u.cells) u.cells:=⟨by have:=fN [] v.list [] (v:= .agg u.cells) (o:=0) (n:=2) rfl v.ae u.size;simpa[cI.cells,Value.cells]using this,by simp[Value.cells,cI.size]⟩
instance SE{v:cI}:aw v.cells 0 (.bool v.oK):=⟨by simp[cI.cells,cI.list,WY,aB]⟩
instance VT{v:cI}{u:Bool}:bD v.cells 0 (.bool u) {v with oK:=u}.cells:=by have:=bD.fr ([]:List Value) ([.bool v.oK]) ([.int .i64 v.n]) (cs:=v.cells) (o:=0) (n:=1) (v:= .bool u) (by simp[cI.cells,cI.list]) sm rfl rfl;simpa[cI.cells,cI.list,Value.cells]using this
instance Wd{v:cI}:aw v.cells 1 (.int .i64 v.n):=⟨by simp[cI.cells,cI.list,WY,aB]⟩
instance Tp{v:cI}{u:Int}:bD v.cells 1 (.int .i64 u) {v with n:=u}.cells:=by have:=bD.fr ([.bool v.oK]) ([.int .i64 v.n]) ([]:List Value) (cs:=v.cells) (o:=1) (n:=1) (v:= .int .i64 u) (by simp[cI.cells,cI.list]) sm rfl rfl;simpa[cI.cells,cI.list,Value.cells]using this
instance Td{f0:Bool}{f1:Int}:aw (cI.mk f0 f1).cells 0 (.bool f0):=inferInstanceAs (aw (cI.mk f0 f1).cells 0 (.bool (cI.mk f0 f1).oK))
instance Th{f0:Bool}{f1:Int}{u:Bool}:bD (cI.mk f0 f1).cells 0 (.bool u) (cI.mk u f1).cells:=inferInstanceAs (bD (cI.mk f0 f1).cells 0 (.bool u) {(cI.mk f0 f1)with oK:=u}.cells)
instance Vo{f0:Bool}{f1:Int}{u:Int}:bD (cI.mk f0 f1).cells 1 (.int .i64 u) (cI.mk f0 u).cells:=inferInstanceAs (bD (cI.mk f0 f1).cells 1 (.int .i64 u) {(cI.mk f0 f1)with n:=u}.cells)
@[reducible] def cI.zero:cI:= {oK:=false,n:=0}
instance SL:lT prog 39 (.agg cI.zero.cells):=⟨kr⟩
theorem cI.dk(x y:cI):x=y↔x.oK=y.oK/\x.n=y.n:=adW
instance U5:DecidableEq cI:=fun x y=>decidable_of_iff _ (cI.dk x y).symm
structure ar where
 aG:Int
 seq:Int
 slot:Int
 res:cI
def ar.list(v:ar):List Value:=[.int .i64 v.aG]++([.int .i64 v.seq]++([.int .i64 v.slot]++(v.res.list)))
def ar.cells(v:ar):Array Value:=v.list.toArray
theorem ar.ae(v:ar):v.list.length=5:=by simp[ar.list,cI.ae]
theorem ar.aS(v:ar):v.list.all Value.oneCell'=true:=by simp[ar.list,Value.oneCell',cI.aS]
instance T6{v:ar}:Cells v.cells 5:=Cells.list v.ae v.aS
theorem ar.size(v:ar):v.cells.size=5:=by simp[ar.cells,ar.ae]
instance TF{v:ar}:dh v.cells 0 5 v.cells:=⟨by have h:=v.size;apply XX<;>simp[h]⟩
instance Ud{v u:ar}:bD v.cells 0 (.agg u.cells) u.cells:=⟨by have:=fN [] v.list [] (v:= .agg u.cells) (o:=0) (n:=5) rfl v.ae u.size;simpa[ar.cells,Value.cells]using this,by simp[Value.cells,ar.size]⟩
instance Wa{v:ar}:aw v.cells 0 (.int .i64 v.aG):=⟨by simp[ar.cells,ar.list,WY,aB,cI.ae]⟩
instance Tf{v:ar}{u:Int}:bD v.cells 0 (.int .i64 u) {v with aG:=u}.cells:=by have:=bD.fr ([]:List Value) ([.int .i64 v.aG]) ([.int .i64 v.seq]++[.int .i64 v.slot]++v.res.list) (cs:=v.cells) (o:=0) (n:=1) (v:= .int .i64 u) afT afU rfl rfl;simpa[ar.cells,ar.list,Value.cells]using this
instance Wj{v:ar}:aw v.cells 1 (.int .i64 v.seq):=⟨by simp[ar.cells,ar.list,WY,aB,cI.ae]⟩
instance Ug{v:ar}{u:Int}:bD v.cells 1 (.int .i64 u) {v with seq:=u}.cells:=by have:=bD.fr ([.int .i64 v.aG]) ([.int .i64 v.seq]) ([.int .i64 v.slot]++v.res.list) (cs:=v.cells) (o:=1) (n:=1) (v:= .int .i64 u) afT afU rfl rfl;simpa[ar.cells,ar.list,Value.cells]using this
instance Tl{v:ar}:aw v.cells 2 (.int .i64 v.slot):=⟨by simp[ar.cells,ar.list,WY,aB,cI.ae]⟩
instance UW{v:ar}{u:Int}:bD v.cells 2 (.int .i64 u) {v with slot:=u}.cells:=by have:=bD.fr ([.int .i64 v.aG]++[.int .i64 v.seq]) ([.int .i64 v.slot]) (v.res.list) (cs:=v.cells) (o:=2) (n:=1) (v:= .int .i64 u) afT afU rfl rfl;simpa[ar.cells,ar.list,Value.cells]using this
instance Wc{v:ar}:dh v.cells 3 2 v.res.cells:=⟨by first|(simp[ar.cells,ar.list,cI.ae];done)|(have:=fP ([.int .i64 v.aG]++[.int .i64 v.seq]++[.int .i64 v.slot]) (v.res.list) ([]:List Value) (o:=3) (n:=2) afU afU;simpa[ar.cells,ar.list,cI.cells]using this)⟩
instance TK{v:ar}{u:cI}:bD v.cells 3 (.agg u.cells) {v with res:=u}.cells:=by have:=bD.fr ([.int .i64 v.aG]++[.int .i64 v.seq]++[.int .i64 v.slot]) (v.res.list) ([]:List Value) (cs:=v.cells) (o:=3) (n:=2) (v:= .agg u.cells) afT afU afU (by simp[Value.cells,cI.size]);simp only[Value.cells,ar.cells,ar.list,cI.cells,W4,Xh,XG]at this ⊢;first|exact this|simpa using this
instance Vq{v:ar}:aw v.cells 3 (.bool v.res.oK):=⟨by simp[ar.cells,ar.list,cI.list,WY,aB,cI.ae]⟩
instance We{v:ar}:aw v.cells 4 (.int .i64 v.res.n):=⟨by simp[ar.cells,ar.list,cI.list,WY,aB,cI.ae]⟩
instance Un{f0:Int}{f1:Int}{f2:Int}{f3:cI}{u:Int}:bD (ar.mk f0 f1 f2 f3).cells 0 (.int .i64 u) (ar.mk u f1 f2 f3).cells:=inferInstanceAs (bD (ar.mk f0 f1 f2 f3).cells 0 (.int .i64 u) {(ar.mk f0 f1 f2 f3)with aG:=u}.cells)
instance UY{f0:Int}{f1:Int}{f2:Int}{f3:cI}{u:Int}:bD (ar.mk f0 f1 f2 f3).cells 1 (.int .i64 u) (ar.mk f0 u f2 f3).cells:=inferInstanceAs (bD (ar.mk f0 f1 f2 f3).cells 1 (.int .i64 u) {(ar.mk f0 f1 f2 f3)with seq:=u}.cells)
instance VM{f0:Int}{f1:Int}{f2:Int}{f3:cI}{u:Int}:bD (ar.mk f0 f1 f2 f3).cells 2 (.int .i64 u) (ar.mk f0 f1 u f3).cells:=inferInstanceAs (bD (ar.mk f0 f1 f2 f3).cells 2 (.int .i64 u) {(ar.mk f0 f1 f2 f3)with slot:=u}.cells)
@[reducible] def ar.zero:ar:= {aG:=0,seq:=0,slot:=0,res:=cI.zero}
instance SK:lT prog 41 (.agg ar.zero.cells):=⟨kr⟩
structure ah where
 n:Int
 hash:Vector UInt8 32
 batch:BS
 parts:PS
def ah.list(v:ah):List Value:=[.int .i64 v.n]++(aX v.hash++([.slice v.batch.a v.batch.l.length v.batch.c]++([.slice v.parts.a v.parts.ls.length v.parts.c])))
def ah.cells(v:ah):Array Value:=v.list.toArray
theorem ah.ae(v:ah):v.list.length=35:=by simp[ah.list]
theorem ah.aS(v:ah):v.list.all Value.oneCell'=true:=by simp[ah.list,Value.oneCell']
instance QF{v:ah}:Cells v.cells 35:=Cells.list v.ae v.aS
theorem ah.size(v:ah):v.cells.size=35:=by simp[ah.cells,ah.ae]
instance Rj{v:ah}:dh v.cells 0 35 v.cells:=⟨by have h:=v.size;apply XX<;>simp[h]⟩
instance QI{v u:ah}:bD v.cells 0 (.agg u.cells) u.cells:=⟨by have:=fN [] v.list [] (v:= .agg u.cells) (o:=0) (n:=35) rfl v.ae u.size;simpa[ah.cells,Value.cells]using this,by simp[Value.cells,ah.size]⟩
instance RG{v:ah}:aw v.cells 0 (.int .i64 v.n):=⟨by simp[ah.cells,ah.list,WY,aB]⟩
instance PZ{v:ah}{u:Int}:bD v.cells 0 (.int .i64 u) {v with n:=u}.cells:=by have:=bD.fr ([]:List Value) ([.int .i64 v.n]) (aX v.hash++[.slice v.batch.a v.batch.l.length v.batch.c]++[.slice v.parts.a v.parts.ls.length v.parts.c]) (cs:=v.cells) (o:=0) (n:=1) (v:= .int .i64 u) aea sm rfl rfl;simpa[ah.cells,ah.list,Value.cells]using this
instance PO{v:ah}:dh v.cells 1 32 (aX v.hash).toArray:=⟨by first|(simp[ah.cells,ah.list];done)|(have:=fP ([.int .i64 v.n]) (aX v.hash) ([.slice v.batch.a v.batch.l.length v.batch.c]++[.slice v.parts.a v.parts.ls.length v.parts.c]) (o:=1) (n:=32) sm sm;simpa[ah.cells,ah.list]using this)⟩
instance R2{v:ah}{u:Vector UInt8 32}:bD v.cells 1 (.agg (aX u).toArray) {v with hash:=u}.cells:=by have:=bD.fr ([.int .i64 v.n]) (aX v.hash) ([.slice v.batch.a v.batch.l.length v.batch.c]++[.slice v.parts.a v.parts.ls.length v.parts.c]) (cs:=v.cells) (o:=1) (n:=32) (v:= .agg (aX u).toArray) aea sm sm abY;simp only[Value.cells,ah.cells,ah.list,W4,Xh,XG]at this ⊢;first|exact this|simpa using this
instance Q4{v:ah}:aw v.cells 33 (.slice v.batch.a v.batch.l.length v.batch.c):=⟨by simp[ah.cells,ah.list,WY,aB]⟩
instance RX{v:ah}{a:Option Addr}{l:List UInt8}{c:Nat}:bD v.cells 33 (.slice a l.length c) {v with batch:=⟨a,c,l⟩}.cells:=by have:=bD.fr ([.int .i64 v.n]++aX v.hash) ([.slice v.batch.a v.batch.l.length v.batch.c]) ([.slice v.parts.a v.parts.ls.length v.parts.c]) (cs:=v.cells) (o:=33) (n:=1) (v:= .slice a l.length c) aea sm rfl rfl;simpa[ah.cells,ah.list,Value.cells]using this
instance (priority:=high) P7{v:ah}:bD v.cells 33 (.slice none 0 0) {v with batch:=⟨none,0,[]⟩}.cells:=by have:=bD.fr ([.int .i64 v.n]++aX v.hash) ([.slice v.batch.a v.batch.l.length v.batch.c]) ([.slice v.parts.a v.parts.ls.length v.parts.c]) (cs:=v.cells) (o:=33) (n:=1) (v:= .slice none 0 0) aea sm rfl rfl;simpa[ah.cells,ah.list,Value.cells]using this
instance QA{v:ah}:aw v.cells 34 (.slice v.parts.a v.parts.ls.length v.parts.c):=⟨by simp[ah.cells,ah.list,WY,aB]⟩
instance Rh{v:ah}{a:Option Addr}{l:List BS}{c:Nat}:bD v.cells 34 (.slice a l.length c) {v with parts:=⟨a,c,l⟩}.cells:=by have:=bD.fr ([.int .i64 v.n]++aX v.hash++[.slice v.batch.a v.batch.l.length v.batch.c]) ([.slice v.parts.a v.parts.ls.length v.parts.c]) ([]:List Value) (cs:=v.cells) (o:=34) (n:=1) (v:= .slice a l.length c) aea sm rfl rfl;simpa[ah.cells,ah.list,Value.cells]using this
instance (priority:=high) Rx{v:ah}:bD v.cells 34 (.slice none 0 0) {v with parts:=⟨none,0,[]⟩}.cells:=by have:=bD.fr ([.int .i64 v.n]++aX v.hash++[.slice v.batch.a v.batch.l.length v.batch.c]) ([.slice v.parts.a v.parts.ls.length v.parts.c]) ([]:List Value) (cs:=v.cells) (o:=34) (n:=1) (v:= .slice none 0 0) aea sm rfl rfl;simpa[ah.cells,ah.list,Value.cells]using this
instance QC{f0:Int}{f1:Vector UInt8 32}{f2:BS}{f3:PS}:aw (ah.mk f0 f1 f2 f3).cells 0 (.int .i64 f0):=inferInstanceAs (aw (ah.mk f0 f1 f2 f3).cells 0 (.int .i64 (ah.mk f0 f1 f2 f3).n))
instance QY{f0:Int}{f1:Vector UInt8 32}{f2:BS}{f3:PS}{u:Int}:bD (ah.mk f0 f1 f2 f3).cells 0 (.int .i64 u) (ah.mk u f1 f2 f3).cells:=inferInstanceAs (bD (ah.mk f0 f1 f2 f3).cells 0 (.int .i64 u) {(ah.mk f0 f1 f2 f3)with n:=u}.cells)
instance Qw{f0:Int}{f1:Vector UInt8 32}{f2:BS}{f3:PS}{u:Vector UInt8 32}:bD (ah.mk f0 f1 f2 f3).cells 1 (.agg (aX u).toArray) (ah.mk f0 u f2 f3).cells:=inferInstanceAs (bD (ah.mk f0 f1 f2 f3).cells 1 (.agg (aX u).toArray) {(ah.mk f0 f1 f2 f3)with hash:=u}.cells)
instance QQ{f0:Int}{f1:Vector UInt8 32}{f2:BS}{f3:PS}:dh (ah.mk f0 f1 f2 f3).cells 1 32 (aX f1).toArray:=inferInstanceAs (dh (ah.mk f0 f1 f2 f3).cells 1 32 (aX (ah.mk f0 f1 f2 f3).hash).toArray)
instance Rz{f0:Int}{f1:Vector UInt8 32}{f2:BS}{f3:PS}:aw (ah.mk f0 f1 f2 f3).cells 33 (.slice f2.a f2.l.length f2.c):=inferInstanceAs (aw (ah.mk f0 f1 f2 f3).cells 33 (.slice (ah.mk f0 f1 f2 f3).batch.a (ah.mk f0 f1 f2 f3).batch.l.length (ah.mk f0 f1 f2 f3).batch.c))
instance PW{f0:Int}{f1:Vector UInt8 32}{f3:PS}{a:Option Addr}{c:Nat}{l:List UInt8}:aw (ah.mk f0 f1 (BS.mk a c l) f3).cells 33 (.slice a l.length c):=inferInstanceAs (aw (ah.mk f0 f1 (BS.mk a c l) f3).cells 33 (.slice (ah.mk f0 f1 (BS.mk a c l) f3).batch.a (ah.mk f0 f1 (BS.mk a c l) f3).batch.l.length (ah.mk f0 f1 (BS.mk a c l) f3).batch.c))
instance QL{f0:Int}{f1:Vector UInt8 32}{f2:BS}{f3:PS}{a:Option Addr}{c:Nat}{l:List UInt8}:bD (ah.mk f0 f1 f2 f3).cells 33 (.slice a l.length c) (ah.mk f0 f1 (BS.mk a c l) f3).cells:=inferInstanceAs (bD (ah.mk f0 f1 f2 f3).cells 33 (.slice a l.length c) {(ah.mk f0 f1 f2 f3)with batch:=(BS.mk a c l)}.cells)
instance(priority:=high) QW{f0:Int}{f1:Vector UInt8 32}{f2:BS}{f3:PS}:bD (ah.mk f0 f1 f2 f3).cells 33 (.slice none 0 0) (ah.mk f0 f1 ⟨none,0,[]⟩ f3).cells:=inferInstanceAs (bD (ah.mk f0 f1 f2 f3).cells 33 (.slice none 0 0) {(ah.mk f0 f1 f2 f3)with batch:=⟨none,0,[]⟩}.cells)
instance Q7{f0:Int}{f1:Vector UInt8 32}{f2:BS}{f3:PS}:aw (ah.mk f0 f1 f2 f3).cells 34 (.slice f3.a f3.ls.length f3.c):=inferInstanceAs (aw (ah.mk f0 f1 f2 f3).cells 34 (.slice (ah.mk f0 f1 f2 f3).parts.a (ah.mk f0 f1 f2 f3).parts.ls.length (ah.mk f0 f1 f2 f3).parts.c))
instance QH{f0:Int}{f1:Vector UInt8 32}{f2:BS}{a:Option Addr}{c:Nat}{l:List BS}:aw (ah.mk f0 f1 f2 (PS.mk a c l)).cells 34 (.slice a l.length c):=inferInstanceAs (aw (ah.mk f0 f1 f2 (PS.mk a c l)).cells 34 (.slice (ah.mk f0 f1 f2 (PS.mk a c l)).parts.a (ah.mk f0 f1 f2 (PS.mk a c l)).parts.ls.length (ah.mk f0 f1 f2 (PS.mk a c l)).parts.c))
instance QJ{f0:Int}{f1:Vector UInt8 32}{f2:BS}{f3:PS}{a:Option Addr}{c:Nat}{l:List BS}:bD (ah.mk f0 f1 f2 f3).cells 34 (.slice a l.length c) (ah.mk f0 f1 f2 (PS.mk a c l)).cells:=inferInstanceAs (bD (ah.mk f0 f1 f2 f3).cells 34 (.slice a l.length c) {(ah.mk f0 f1 f2 f3)with parts:=(PS.mk a c l)}.cells)
instance(priority:=high) Qm{f0:Int}{f1:Vector UInt8 32}{f2:BS}{f3:PS}:bD (ah.mk f0 f1 f2 f3).cells 34 (.slice none 0 0) (ah.mk f0 f1 f2 ⟨none,0,[]⟩).cells:=inferInstanceAs (bD (ah.mk f0 f1 f2 f3).cells 34 (.slice none 0 0) {(ah.mk f0 f1 f2 f3)with parts:=⟨none,0,[]⟩}.cells)
@[reducible] def ah.zero:ah:= {n:=0,hash:=zeroV 32,batch:=⟨none,0,[]⟩,parts:=⟨none,0,[]⟩}
instance Ri:lT prog 50 (.agg ah.zero.cells):=⟨kr⟩
structure gn where
 kind:Int
 key:Int
 a:Int
 b:Int
def gn.list(v:gn):List Value:=[.int .i64 v.kind]++([.int .i64 v.key]++([.int .i64 v.a]++([.int .i64 v.b])))
def gn.cells(v:gn):Array Value:=v.list.toArray
theorem gn.ae(v:gn):v.list.length=4:=by simp[gn.list]
theorem gn.aS(v:gn):v.list.all Value.oneCell'=true:=by simp[gn.list,Value.oneCell']
instance Re{v:gn}:Cells v.cells 4:=Cells.list v.ae v.aS
theorem gn.size(v:gn):v.cells.size=4:=by simp[gn.cells,gn.ae]
instance PV{v:gn}:dh v.cells 0 4 v.cells:=⟨by have h:=v.size;apply XX<;>simp[h]⟩
instance Qi{v:gn}:aw v.cells 0 (.int .i64 v.kind):=⟨by simp[gn.cells,gn.list,WY,aB]⟩
instance Qk{v:gn}:aw v.cells 1 (.int .i64 v.key):=⟨by simp[gn.cells,gn.list,WY,aB]⟩
instance Qh{v:gn}:aw v.cells 2 (.int .i64 v.a):=⟨by simp[gn.cells,gn.list,WY,aB]⟩
instance PX{v:gn}:aw v.cells 3 (.int .i64 v.b):=⟨by simp[gn.cells,gn.list,WY,aB]⟩
instance PJ{f0:Int}{f1:Int}{f2:Int}{f3:Int}:aw (gn.mk f0 f1 f2 f3).cells 0 (.int .i64 f0):=inferInstanceAs (aw (gn.mk f0 f1 f2 f3).cells 0 (.int .i64 (gn.mk f0 f1 f2 f3).kind))
instance Q5{f0:Int}{f1:Int}{f2:Int}{f3:Int}:aw (gn.mk f0 f1 f2 f3).cells 1 (.int .i64 f1):=inferInstanceAs (aw (gn.mk f0 f1 f2 f3).cells 1 (.int .i64 (gn.mk f0 f1 f2 f3).key))
instance Qq{f0:Int}{f1:Int}{f2:Int}{f3:Int}:aw (gn.mk f0 f1 f2 f3).cells 2 (.int .i64 f2):=inferInstanceAs (aw (gn.mk f0 f1 f2 f3).cells 2 (.int .i64 (gn.mk f0 f1 f2 f3).a))
instance RM{f0:Int}{f1:Int}{f2:Int}{f3:Int}:aw (gn.mk f0 f1 f2 f3).cells 3 (.int .i64 f3):=inferInstanceAs (aw (gn.mk f0 f1 f2 f3).cells 3 (.int .i64 (gn.mk f0 f1 f2 f3).b))
@[reducible] def gn.zero:gn:= {kind:=0,key:=0,a:=0,b:=0}
structure aj where
 slot:Int
 first:Int
 view:aH
 fM:aH
 cs:Vector ax 16
 last:Vector ar 6
abbrev aj.p0(v:aj):List Value:=[.int .i64 v.slot]
abbrev aj.p1(v:aj):List Value:=[.int .i64 v.first]
abbrev aj.p4(v:aj):List Value:=bJ ax.list v.cs
abbrev aj.p5(v:aj):List Value:=bJ ar.list v.last
theorem aj.l4(v:aj):v.p4.length=32:=dO _ 2 ax.ae v.cs
theorem aj.l5(v:aj):v.p5.length=30:=dO _ 5 ar.ae v.last
def aj.list(v:aj):List Value:=v.p0++(v.p1++(v.view.list++(v.fM.list++(v.p4++(v.p5)))))
def aj.cells(v:aj):Array Value:=v.list.toArray
theorem aj.ae(v:aj):v.list.length=68:=by simp only[aj.list,WX,aH.ae,v.l4,v.l5,XB]
theorem aj.aS(v:aj):v.list.all Value.oneCell'=true:=by
 simp only[aj.list,List.all_append,aH.aS,mQ _ ax.aS,mQ _ ar.aS];rfl
instance Pf{v:aj}:Cells v.cells 68:=Cells.list v.ae v.aS
theorem aj.size(v:aj):v.cells.size=68:=by simp[aj.cells,aj.ae]
instance RB{v:aj}:dh v.cells 0 68 v.cells:=⟨by have h:=v.size;apply XX<;>simp[h]⟩
instance Q6{v u:aj}:bD v.cells 0 (.agg u.cells) u.cells:=⟨by have:=fN [] v.list [] (v:= .agg u.cells) (o:=0) (n:=68) rfl v.ae u.size;simpa[aj.cells,Value.cells]using this,by simp[Value.cells,aj.size]⟩
instance PE{v:aj}:aw v.cells 0 (.int .i64 v.slot):=⟨by simp[aj.cells,aj.list]⟩
instance TE{v:aj}:aw v.cells 1 (.int .i64 v.first):=⟨by simp[aj.cells,aj.list]⟩
instance PG{v:aj}:dh v.cells 2 2 v.view.cells:=⟨by have:=fP (v.p0++v.p1) v.view.list (v.fM.list++(v.p4++v.p5)) (o:=2) (n:=2) rfl v.view.ae;simpa[aj.cells,aj.list,aH.cells,W4]using this⟩
instance U1{v:aj}:dh v.cells 4 2 v.fM.cells:=⟨by have:=fP (v.p0++v.p1++v.view.list) v.fM.list (v.p4++v.p5) (o:=4) (n:=2) afQ v.fM.ae;simpa[aj.cells,aj.list,aH.cells,W4]using this⟩
instance S2{v:aj}:dh v.cells 6 32 (bJ ax.list v.cs).toArray:=⟨by have:=fP (v.p0++v.p1++v.view.list++v.fM.list) v.p4 v.p5 (o:=6) (n:=32) afQ v.l4;simpa[aj.cells,aj.list,W4]using this⟩
instance RQ{v:aj}:dh v.cells 38 30 (bJ ar.list v.last).toArray:=⟨by have:=fP (v.p0++v.p1++v.view.list++v.fM.list++v.p4) v.p5 [] (o:=38) (n:=30) (by simp[aH.ae,v.l4]) v.l5;simpa[aj.cells,aj.list,W4]using this⟩
instance QZ{v:aj}{u:Int}:bD v.cells 0 (.int .i64 u) {v with slot:=u}.cells:=by have:=bD.fr ([]:List Value) v.p0 (v.p1++(v.view.list++(v.fM.list++(v.p4++v.p5)))) (cs:=v.cells) (o:=0) (n:=1) (v:= .int .i64 u) rfl rfl rfl rfl;simpa[aj.cells,aj.list,Value.cells]using this
instance MN{v:Vector ax 16}:Cells (bJ ax.list v).toArray 32:=Cells.list (dO _ 2 ax.ae v) (mQ _ ax.aS v)
instance NZ{v:Vector ax 16}:dh (bJ ax.list v).toArray 0 32 (bJ ax.list v).toArray:=⟨by have h:=dO _ 2 ax.ae v;apply XX<;>simp[h]⟩
@[reducible] def aj.zero:aj:=⟨0,0,aH.zero,aH.zero,Vector.replicate 16 ax.zero,Vector.replicate 6 ar.zero⟩
instance PF:lT prog 44 (.agg aj.zero.cells):=⟨kr⟩
end
section
def tt:Nat->Nat->List Nat
 |0,_=>[]
 |k+1,n=>(if n%2=1 then[0]else[])++(tt k (n/2)).map (· +1)
def Hp(n:Nat):List Nat:=(List.range 16).filter fun i=>n.testBit i
theorem Fm:∀k n,tt k n=(List.range k).filter fun i=>n.testBit i
 |0,n=>rfl
 |k+1,n=>by
   rw[tt,Fm k,List.range_succ_eq_map,YP,List.filter_map];have e:(fun i=>n.testBit i)∘Nat.succ=fun i=>(n/2).testBit i:=by funext i;simp[Nat.testBit_succ]
   rw[e];by_cases h:n%2=1<;>simp[h,Nat.testBit_zero]
theorem Lx(n:Nat):tt 16 n=Hp n:=Fm 16 n
theorem wm:∀j k n,tt (j+k) n=tt j (n%2^j)++(tt k (n/2^j)).map (· +j)
 |0,k,n=>by simp[tt]
 |j+1,k,n=>by
   rw[show j+1+k=(j+k)+1 by omega,tt,tt,wm j k];have e1:n%2^(j+1)%2=n%2:=Nat.mod_mod_of_dvd _ ⟨2^j,by rw[X3,Yn]⟩;have e2:n%2^(j+1)/2=n/2%2^j:=by rw[X3,Yn,Nat.mod_mul_right_div_self]
   have e3:n/2/2^j=n/2^(j+1):=by rw[YG,X3,Yn]
   rw[e1,e2,e3,Xi,Yo,W4]
   congr 3
theorem Ct:∀i<256,qL i=(tt 8 i).length:=adv
theorem ES{n:Nat}(h:n<65536):pB n=(Hp n).length:=by
 rw[←Lx,wm 8 8 n,WX,WZ,pB,Ct _ om,Ct _ om];show _=(tt 8 (n%256)).length+(tt 8 (n/256)).length;rw[Nat.add_comm]
theorem EX(x k:Nat)(h:x<=9223372036854775807):IntKind.i64.wrap ((x:Int).tdiv (k:Int))=((x/k:Nat):Int):=by
 have h1:x/k<=x:=YT _ _;rw[←Int.ofNat_tdiv];generalize x/k=q at*;exact wrap_i64 om om
@[reducible] def L7(n:Nat):List Value:=[.int .i64 (n:Int)]
attribute [local irreducible] qL
theorem CG(mk k:Nat):(List.range (k+1)).filter (fun i=>mk.testBit i)=(List.range k).filter (fun i=>mk.testBit i)++(if mk/2^k%2=1 then[k]else[]):=by
 rw[Yu,YS]
 congr 1
 simp only[YP,List.filter_nil,Nat.testBit_eq_decide_div_mod_eq,decide_eq_true_eq]
theorem D7{w0:World}{H:List SA}{num:Int}{mk:Nat}(hmk:mk<65536):CT prog w0 (H) 265 [.agg (aH.mk num (mk:Int)).cells] (α:=AC) (fun y=> .slice y.a (Hp mk).length y.c) (fun y=>row (.slice y.a (Hp mk).length y.c) 3 1 ((Hp mk).flatMap L7)::H):=by
 refine al func265 rfl ntmps265 rfl (gG ?_);refine ze rfl (aZ rfl (fun b1=>gG ?_));refine Zh ?_;refine bH [3,4,5,9,10,11,12,13,14,15,16,17,18,19,20,21] [5,4,3] (fun us H'=>∃(k:Nat)(a:Option Addr)(c:Nat)(out:List Nat),us=[.int .i64 (k:Int),.int .i64 ((mk/2^k:Nat):Int),.slice a out.length c]/\row (.slice a (out).length c) 3 1 ((out).flatMap L7)::aF b1 (.cells (aH.mk num (mk:Int)).cells 33 (0,0))::H=H'/\k<=16/\(out=(List.range k).filter (fun i=>mk.testBit i))) (fun us=>match us with| .int _ i::_=>16-i.toNat|_=>0) ⟨0,none,0,[],by rw[Nat.pow_zero,Nat.div_one];rfl,rfl,om,rfl⟩ (fun w hw=>by
  have h0:St w0 (aF b1 (.cells (aH.mk num (mk:Int)).cells 33 (0,0))::H) w:=SB w hw;exact h0.cT 3 1) ?_
 rintro τ0 _ _ ⟨k,a,c,out,rfl,rfl,hk0,ho⟩ _;refine gG ?_;refine yC ?_ ?_<;>intro h10 p10
 ·have hle:mk/2^k<=mk:=YT _ _;refine gG ?_;refine zq (bI (mc rfl rfl dc) (congrArg (Value.int .i64) (mD (mk/2^k) 2))) rfl ?_;refine gG ?_;refine yC ?_ ?_<;>intro h15 p15
  ·have hb:(List.range (k+1)).filter (fun i=>mk.testBit i)=out++[k]:=by rw[CG,if_pos om,ho]
   refine gG ?_;refine ze rfl (cr (m:=([k]:List Nat).length) [.int .i64 ((k:Nat):Int)] (([k]:List Nat).flatMap L7) rfl rfl rfl rfl abY rfl rfl (fun a18 c18=>?_));refine ze rfl (cp L7 (sv:= .slice _ _ _) (xv:= .slice _ _ _) (xs:=out) (ys:=([k]:List Nat)) (fun _=>rfl) (fun _=>rfl) rfl rfl (by have:(out).length<=16:=(by rw[ho];have:=List.length_filter_le (fun i=>mk.testBit i) (List.range k);rw[List.length_range]at this;omega);simp;omega) rfl rfl (fun a19 c19=>gG ?_));refine ZZ ?_;exact ad7
  have hb:(List.range (k+1)).filter (fun i=>mk.testBit i)=out:=by rw[CG,if_neg om,ho,Xn]
  refine gG ?_;refine ZZ ?_;exact ad7
 have hk16:k=16:=om;subst hk16;have hs2:out=Hp mk:=ho;subst hs2;refine gG ?_;refine Za ?_;exact zX ⟨a,c⟩ [_] results265 ⟨rfl,trivial⟩ rfl SB
end
end Go.Proofs.YtmbfimckmfnnjaaGreatDoor
