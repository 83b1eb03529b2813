/- Steps of the proof of a law. -/
import Derived.Test.YtmbfimckmfnnjaaGreatDoorQ12
import Derived.Test.YtmbfimckmfnnjaaGreatDoorQ17
set_option maxRecDepth 100000
set_option maxHeartbeats 1000000
set_option linter.unusedSimpArgs false
set_option linter.unusedVariables false
namespace Go.Proofs.YtmbfimckmfnnjaaGreatDoor
open Go.RowKit Go.Sx Go.Proofs.Tryz
section
def sf(pre:List fD)(r:fD):Bool:=pre.any fun x=>decide (x.aG=r.aG/\r.seq<=x.seq)
def L3:List fD->List fD->Bool
 |_,[]=>true
 |pre,r::rs=>bh r&& !(sf pre r)&&L3 (pre++[r]) rs
def Pn(f:Int->Int)(pre:List fD):Prop:=(∀x∈pre,x.seq<=f x.aG)/\∀c,f c=0∨∃x∈pre,x.aG=c/\x.seq=f c
theorem vZ(pre:List fD)(r:fD):sf pre r=true↔∃x∈pre,x.aG=r.aG/\r.seq<=x.seq:=by
 unfold sf;rw[List.any_eq_true]
 constructor
 · rintro⟨x,h,e⟩;exact⟨x,h,of_decide_eq_true e⟩
 · rintro⟨x,h,e⟩;exact⟨x,h,decide_eq_true e⟩
theorem MY:∀(ls:List fD)(f:Int->Int)(pre:List fD),Pn f pre->okB f ls=L3 pre ls
 |[],_,_,_=>rfl
 |r::rs,f,pre,⟨h1,h2⟩=>by
   show(bh r&&decide (f r.aG<r.seq)&&okB (Hy f r) rs)=(bh r&& !(sf pre r)&&L3 (pre++[r]) rs);cases hf:bh r with
   |false=>rfl
   |true=>
     have hs:=BX hf;by_cases hlt:f r.aG<r.seq
     · have hb:sf pre r=false:=by
         cases hp:sf pre r with
         |false=>rfl
         |true=>
           obtain⟨x,hx,e1,e2⟩:=(vZ _ _).1 hp;have:=h1 x hx;rw[e1]at this;omega
       rw[decide_eq_true hlt,hb];refine congrArg (fun b=>true&&true&&b) (MY rs (Hy f r) (pre++[r]) ⟨?_,?_⟩)
       · intro x hx
         unfold Hy;rcases Xc.1 hx with hx|hx
         · have:=h1 x hx
           by_cases e:x.aG=r.aG
           · rw[if_pos e];rw[e]at this;omega
           · rw[if_neg e];exact this
         · rw[Xb.1 hx,if_pos rfl];exact Int.le_refl _
       · intro c
         unfold Hy;by_cases e:c=r.aG
         · rw[if_pos e]
           exact .inr ⟨r,Xo _ (Xb.2 rfl),e.symm,rfl⟩
         · rw[if_neg e]
           rcases h2 c with h|⟨x,hx,e1,e2⟩
           · exact .inl h
           · exact .inr ⟨x,Xx _ hx,e1,e2⟩
     · have hb:sf pre r=true:=by
         rcases h2 r.aG with h|⟨x,hx,e1,e2⟩
         · omega
         · exact(vZ _ _).2 ⟨x,hx,e1,om⟩
       rw[decide_eq_false hlt,hb];rfl
theorem CD(ls:List fD):Au ls=(L3 [] ls&&decide (1<=ls.length/\ls.length<=4)):=by
 unfold Au;rw[MY ls _ [] ⟨fun x hx=>afe,fun c=> .inl rfl⟩]
theorem J3(ls:List fD)(k:Nat)(h:k<ls.length):L3 (ls.take k) (ls.drop k)=(bh ls[k]&& !(sf (ls.take k) ls[k])&&L3 (ls.take (k+1)) (ls.drop (k+1))):=by
 rw[Xu h,Xf h];rfl
theorem F8(ls:List fD)(i:Nat)(hi:i<ls.length)(r:fD):sf (ls.take (i+1)) r=(sf (ls.take i) r||decide (ls[i].aG=r.aG/\r.seq<=ls[i].seq)):=by
 unfold sf;rw[Xf hi,List.any_append];simp
theorem GP(ls:List fD)(j k:Nat)(hjk:j<k)(hk:k<=ls.length)(r:fD)(h:(ls[j]'om).aG=r.aG/\r.seq<=(ls[j]'om).seq):sf (ls.take k) r=true:=
 (vZ _ _).2 ⟨ls[j]'om,by rw[List.mem_take_iff_getElem];exact⟨j,om,rfl⟩,h⟩
end
section
structure cG where
 w:aj
 e:Int
def cG.list(v:cG):List Value:=v.w.list++([.int .i64 v.e])
def cG.cells(v:cG):Array Value:=v.list.toArray
theorem cG.ae(v:cG):v.list.length=69:=by simp[cG.list,aj.ae]
theorem cG.aS(v:cG):v.list.all Value.oneCell'=true:=by simp[cG.list,Value.oneCell',aj.aS]
instance WC{v:cG}:Cells v.cells 69:=Cells.list v.ae v.aS
theorem cG.size(v:cG):v.cells.size=69:=by simp[cG.cells,cG.ae]
instance Wt{v:cG}:dh v.cells 0 69 v.cells:=⟨by have h:=v.size;apply XX<;>simp[h]⟩
instance UK{v u:cG}:bD v.cells 0 (.agg u.cells) u.cells:=⟨by have:=fN [] v.list [] (v:= .agg u.cells) (o:=0) (n:=69) rfl v.ae u.size;simpa[cG.cells,Value.cells]using this,by simp[Value.cells,cG.size]⟩
instance Vz{v:cG}:dh v.cells 0 68 v.w.cells:=⟨by first|(simp[cG.cells,cG.list,aj.ae];done)|(have:=fP ([]:List Value) (v.w.list) ([.int .i64 v.e]) (o:=0) (n:=68) agY agY;simpa[cG.cells,cG.list,aj.cells]using this)⟩
instance SP{v:cG}:aw v.cells 68 (.int .i64 v.e):=⟨by simp[cG.cells,cG.list,WY,aB,aj.ae]⟩
instance Tr{v:cG}{u:Int}:bD v.cells 68 (.int .i64 u) {v with e:=u}.cells:=by have:=bD.fr (v.w.list) ([.int .i64 v.e]) ([]:List Value) (cs:=v.cells) (o:=68) (n:=1) (v:= .int .i64 u) (by simp[cG.cells,cG.list]) agY rfl rfl;simpa[cG.cells,cG.list,Value.cells]using this
instance Vu{f0:aj}{f1:Int}:aw (cG.mk f0 f1).cells 68 (.int .i64 f1):=inferInstanceAs (aw (cG.mk f0 f1).cells 68 (.int .i64 (cG.mk f0 f1).e))
instance Tw{f0:aj}{f1:Int}{u:Int}:bD (cG.mk f0 f1).cells 68 (.int .i64 u) (cG.mk f0 u).cells:=inferInstanceAs (bD (cG.mk f0 f1).cells 68 (.int .i64 u) {(cG.mk f0 f1)with e:=u}.cells)
@[reducible] def cG.zero:cG:= {w:=aj.zero,e:=0}
instance Ur:lT prog 177 (.agg cG.zero.cells):=⟨kr⟩
structure cn where
 w:aj
 l:Sl
def cn.list(v:cn):List Value:=v.w.list++([.slice v.l.a v.l.n v.l.c])
def cn.cells(v:cn):Array Value:=v.list.toArray
theorem cn.ae(v:cn):v.list.length=69:=by simp[cn.list,aj.ae]
theorem cn.aS(v:cn):v.list.all Value.oneCell'=true:=by simp[cn.list,Value.oneCell',aj.aS]
instance Sm{v:cn}:Cells v.cells 69:=Cells.list v.ae v.aS
theorem cn.size(v:cn):v.cells.size=69:=by simp[cn.cells,cn.ae]
instance TB{v:cn}:dh v.cells 0 69 v.cells:=⟨by have h:=v.size;apply XX<;>simp[h]⟩
instance Sp{v u:cn}:bD v.cells 0 (.agg u.cells) u.cells:=⟨by have:=fN [] v.list [] (v:= .agg u.cells) (o:=0) (n:=69) rfl v.ae u.size;simpa[cn.cells,Value.cells]using this,by simp[Value.cells,cn.size]⟩
instance Vn{v:cn}:dh v.cells 0 68 v.w.cells:=⟨by first|(simp[cn.cells,cn.list,aj.ae];done)|(have:=fP ([]:List Value) (v.w.list) ([.slice v.l.a v.l.n v.l.c]) (o:=0) (n:=68) agY agY;simpa[cn.cells,cn.list,aj.cells]using this)⟩
instance UQ{v:cn}:aw v.cells 68 (.slice v.l.a v.l.n v.l.c):=⟨by simp[cn.cells,cn.list,WY,aB,aj.ae]⟩
instance V4{v:cn}{a:Option Addr}{n c:Nat}:bD v.cells 68 (.slice a n c) {v with l:=⟨a,n,c⟩}.cells:=by have:=bD.fr (v.w.list) ([.slice v.l.a v.l.n v.l.c]) ([]:List Value) (cs:=v.cells) (o:=68) (n:=1) (v:= .slice a n c) (by simp[cn.cells,cn.list]) agY rfl rfl;simpa[cn.cells,cn.list,Value.cells]using this
instance Vb{f0:aj}{f1:Sl}:aw (cn.mk f0 f1).cells 68 (.slice f1.a f1.n f1.c):=inferInstanceAs (aw (cn.mk f0 f1).cells 68 (.slice (cn.mk f0 f1).l.a (cn.mk f0 f1).l.n (cn.mk f0 f1).l.c))
instance Um{f0:aj}{a:Option Addr}{n c:Nat}:aw (cn.mk f0 (Sl.mk a n c)).cells 68 (.slice a n c):=inferInstanceAs (aw (cn.mk f0 (Sl.mk a n c)).cells 68 (.slice (cn.mk f0 (Sl.mk a n c)).l.a (cn.mk f0 (Sl.mk a n c)).l.n (cn.mk f0 (Sl.mk a n c)).l.c))
instance Uh{f0:aj}{f1:Sl}{a:Option Addr}{n c:Nat}:bD (cn.mk f0 f1).cells 68 (.slice a n c) (cn.mk f0 (Sl.mk a n c)).cells:=inferInstanceAs (bD (cn.mk f0 f1).cells 68 (.slice a n c) {(cn.mk f0 f1)with l:=(Sl.mk a n c)}.cells)
@[reducible] def cn.zero:cn:= {w:=aj.zero,l:=⟨none,0,0⟩}
instance V8:lT prog 167 (.agg cn.zero.cells):=⟨kr⟩
structure aR where
 base:aj
 last:ah
 aT:Sl
 fk:Sl
def aR.list(v:aR):List Value:=v.base.list++(v.last.list++([.slice v.aT.a v.aT.n v.aT.c]++([.slice v.fk.a v.fk.n v.fk.c])))
def aR.cells(v:aR):Array Value:=v.list.toArray
theorem aR.ae(v:aR):v.list.length=105:=by simp[aR.list,aj.ae,ah.ae]
theorem aR.aS(v:aR):v.list.all Value.oneCell'=true:=by simp[aR.list,Value.oneCell',aj.aS,ah.aS]
instance Sh{v:aR}:Cells v.cells 105:=Cells.list v.ae v.aS
theorem aR.size(v:aR):v.cells.size=105:=by simp[aR.cells,aR.ae]
instance UA{v:aR}:dh v.cells 0 105 v.cells:=⟨by have h:=v.size;apply XX<;>simp[h]⟩
instance Uv{v u:aR}:bD v.cells 0 (.agg u.cells) u.cells:=⟨by have:=fN [] v.list [] (v:= .agg u.cells) (o:=0) (n:=105) rfl v.ae u.size;simpa[aR.cells,Value.cells]using this,by simp[Value.cells,aR.size]⟩
instance TN{v:aR}:dh v.cells 0 68 v.base.cells:=⟨by first|(simp[aR.cells,aR.list,aj.ae,ah.ae];done)|(have:=fP ([]:List Value) (v.base.list) (v.last.list++[.slice v.aT.a v.aT.n v.aT.c]++[.slice v.fk.a v.fk.n v.fk.c]) (o:=0) (n:=68) abM abM;simpa[aR.cells,aR.list,aj.cells,ah.cells]using this)⟩
instance SS{v:aR}{u:aj}:bD v.cells 0 (.agg u.cells) {v with base:=u}.cells:=by have:=bD.fr ([]:List Value) (v.base.list) (v.last.list++[.slice v.aT.a v.aT.n v.aT.c]++[.slice v.fk.a v.fk.n v.fk.c]) (cs:=v.cells) (o:=0) (n:=68) (v:= .agg u.cells) afW abM abM aeu;simp only[Value.cells,aR.cells,aR.list,aj.cells,ah.cells,W4,Xh,XG]at this ⊢;first|exact this|simpa using this
instance S5{v:aR}:dh v.cells 68 35 v.last.cells:=⟨by first|(simp[aR.cells,aR.list,aj.ae,ah.ae];done)|(have:=fP (v.base.list) (v.last.list) ([.slice v.aT.a v.aT.n v.aT.c]++[.slice v.fk.a v.fk.n v.fk.c]) (o:=68) (n:=35) abM abM;simpa[aR.cells,aR.list,aj.cells,ah.cells]using this)⟩
instance Vm{v:aR}{u:ah}:bD v.cells 68 (.agg u.cells) {v with last:=u}.cells:=by have:=bD.fr (v.base.list) (v.last.list) ([.slice v.aT.a v.aT.n v.aT.c]++[.slice v.fk.a v.fk.n v.fk.c]) (cs:=v.cells) (o:=68) (n:=35) (v:= .agg u.cells) afW abM abM aeu;simp only[Value.cells,aR.cells,aR.list,aj.cells,ah.cells,W4,Xh,XG]at this ⊢;first|exact this|simpa using this
instance Wg{v:aR}:aw v.cells 103 (.slice v.aT.a v.aT.n v.aT.c):=⟨by simp[aR.cells,aR.list,WY,aB,aj.ae,ah.ae]⟩
instance Tb{v:aR}{a:Option Addr}{n c:Nat}:bD v.cells 103 (.slice a n c) {v with aT:=⟨a,n,c⟩}.cells:=by have:=bD.fr (v.base.list++v.last.list) ([.slice v.aT.a v.aT.n v.aT.c]) ([.slice v.fk.a v.fk.n v.fk.c]) (cs:=v.cells) (o:=103) (n:=1) (v:= .slice a n c) afW abM rfl rfl;simpa[aR.cells,aR.list,Value.cells]using this
instance Vf{v:aR}:aw v.cells 104 (.slice v.fk.a v.fk.n v.fk.c):=⟨by simp[aR.cells,aR.list,WY,aB,aj.ae,ah.ae]⟩
instance TI{v:aR}{a:Option Addr}{n c:Nat}:bD v.cells 104 (.slice a n c) {v with fk:=⟨a,n,c⟩}.cells:=by have:=bD.fr (v.base.list++v.last.list++[.slice v.aT.a v.aT.n v.aT.c]) ([.slice v.fk.a v.fk.n v.fk.c]) ([]:List Value) (cs:=v.cells) (o:=104) (n:=1) (v:= .slice a n c) afW abM rfl rfl;simpa[aR.cells,aR.list,Value.cells]using this
instance VL{f0:aj}{f1:ah}{f2:Sl}{f3:Sl}:aw (aR.mk f0 f1 f2 f3).cells 103 (.slice f2.a f2.n f2.c):=inferInstanceAs (aw (aR.mk f0 f1 f2 f3).cells 103 (.slice (aR.mk f0 f1 f2 f3).aT.a (aR.mk f0 f1 f2 f3).aT.n (aR.mk f0 f1 f2 f3).aT.c))
instance T9{f0:aj}{f1:ah}{f3:Sl}{a:Option Addr}{n c:Nat}:aw (aR.mk f0 f1 (Sl.mk a n c) f3).cells 103 (.slice a n c):=inferInstanceAs (aw (aR.mk f0 f1 (Sl.mk a n c) f3).cells 103 (.slice (aR.mk f0 f1 (Sl.mk a n c) f3).aT.a (aR.mk f0 f1 (Sl.mk a n c) f3).aT.n (aR.mk f0 f1 (Sl.mk a n c) f3).aT.c))
instance Vg{f0:aj}{f1:ah}{f2:Sl}{f3:Sl}{a:Option Addr}{n c:Nat}:bD (aR.mk f0 f1 f2 f3).cells 103 (.slice a n c) (aR.mk f0 f1 (Sl.mk a n c) f3).cells:=inferInstanceAs (bD (aR.mk f0 f1 f2 f3).cells 103 (.slice a n c) {(aR.mk f0 f1 f2 f3)with aT:=(Sl.mk a n c)}.cells)
instance Vl{f0:aj}{f1:ah}{f2:Sl}{f3:Sl}:aw (aR.mk f0 f1 f2 f3).cells 104 (.slice f3.a f3.n f3.c):=inferInstanceAs (aw (aR.mk f0 f1 f2 f3).cells 104 (.slice (aR.mk f0 f1 f2 f3).fk.a (aR.mk f0 f1 f2 f3).fk.n (aR.mk f0 f1 f2 f3).fk.c))
instance Ta{f0:aj}{f1:ah}{f2:Sl}{a:Option Addr}{n c:Nat}:aw (aR.mk f0 f1 f2 (Sl.mk a n c)).cells 104 (.slice a n c):=inferInstanceAs (aw (aR.mk f0 f1 f2 (Sl.mk a n c)).cells 104 (.slice (aR.mk f0 f1 f2 (Sl.mk a n c)).fk.a (aR.mk f0 f1 f2 (Sl.mk a n c)).fk.n (aR.mk f0 f1 f2 (Sl.mk a n c)).fk.c))
instance VJ{f0:aj}{f1:ah}{f2:Sl}{f3:Sl}{a:Option Addr}{n c:Nat}:bD (aR.mk f0 f1 f2 f3).cells 104 (.slice a n c) (aR.mk f0 f1 f2 (Sl.mk a n c)).cells:=inferInstanceAs (bD (aR.mk f0 f1 f2 f3).cells 104 (.slice a n c) {(aR.mk f0 f1 f2 f3)with fk:=(Sl.mk a n c)}.cells)
@[reducible] def aR.zero:aR:= {base:=aj.zero,last:=ah.zero,aT:=⟨none,0,0⟩,fk:=⟨none,0,0⟩}
instance Su:lT prog 54 (.agg aR.zero.cells):=⟨kr⟩
end
section
def ff(v:dm):Prop:=v.batch.length<=100000/\v.cert.length<=100000/\∀c∈v.cert,c.length<=100000
variable {v:af} {vs:List af} {w0:World} {H:List SA}
theorem ff.batch(h:ff v.abs):v.batch.l.length<=100000:=h.1
theorem ff.cert(h:ff v.abs):v.cert.ls.length<=100000:=by have:=h.2.1;simpa[af.abs]using this
theorem ff.each(h:ff v.abs):∀x∈v.cert.ls,x.l.length<=100000:=fun x hx=>h.2.2 x.l (Xd.2 ⟨x,hx,rfl⟩)
theorem fL(v:af):v.abs.cert.length=v.cert.ls.length:=by simp[af.abs]
theorem Ju[rbv:dT w0 H (.slice v.batch.a v.batch.l.length v.batch.c) v.batch.l][Cd:gy w0 H (.slice v.cert.a v.cert.ls.length v.cert.c) 1 (v.cert.ls.map BS.val)][rev:ju w0 H v.cert.ls](hs:ff v.abs):CT prog w0 (H) 84 [.agg v.cells] (α:=AC) (fun y=> .tuple #[.slice y.a (cU v.abs).1.length y.c,.int .i64 (cU v.abs).2]) (fun y=>row (.slice y.a (cU v.abs).1.length y.c) 5 1 (aE (cU v.abs).1)::H):=by
 refine al func84 rfl ntmps84 rfl (gG ?_);refine ze rfl (aZ rfl (fun b1=>gG ?_));refine Zj ?_;refine yC ?_ ?_<;>intro h11 p11
 ·refine gG ?_;have e:cU v.abs=([],4):=by unfold cU;rw[if_pos afA]
  simp only[e];exact abW
 have p11:¬16<v.abs.cert.length:=afA;refine gG ?_;refine Zu ?_;refine Zj ?_;have hb1:=hs.batch;have hc1:=hs.cert;have he1:=hs.each;refine bH [4,6,18,19,20,21,22,23,24,25,26] [18,4] (fun vs H'=>∃k:Nat,vs=[.int .i64 (k:Int),.int .i64 ((v.batch.l.length+iz (v.abs.cert.take k):Nat):Int)]/\aF b1 (.cells v.cells 57 (0,0))::H=H'/\k<=v.cert.ls.length) (fun vs=>match vs with| .int _ i::_=>v.cert.ls.length-i.toNat|_=>0) ⟨0,rfl,rfl,om⟩ SB ?_;rintro τ0 _ _ ⟨k,rfl,rfl,hk0⟩ _;refine gG ?_;refine yC ?_ ?_<;>intro h19 p19
 ·have hk:k<v.cert.ls.length:=om;refine gG ?_;refine zq (bj rfl rfl om so) rfl (zq (bC (.slice _ _ _) rfl (fV _ _ hk)) rfl (zq (za (.slice _ _ _) rfl) rfl (zz (zx (zR (zq (zm (.int .i64 _) rfl) rfl (zq (zm (.slice _ _ _) rfl) rfl ?_)))))));refine zq (zL rfl underlying47) rfl ?_;have hsl:iz (v.abs.cert.take k)<=1600000:=by
   have h1:=xI 100000 (v.abs.cert.take k) (fun x hx=>hs.2.2 x (Yd hx));have h2:(v.abs.cert.take k).length<=16:=by rw[Xj,fL];omega
   have h3:=Xp 100000 h2;omega
  have hel:=he1 _ (W1 hk);refine gA ?_;refine bW _ zA (⟨k+1,by rw[Cg _ _ (by rw[fL];exact hk)];simp only[af.abs,XP,Xt,X6];rw[←Int.natCast_add,X9];rfl,rfl,om⟩) acr (SB)
 have et:v.abs.cert.take k=v.abs.cert:=W7 afA;simp only[et];refine gG ?_;refine Za ?_;refine yC ?_ ?_<;>intro h28 p28
 ·refine gG ?_;have e:cU v.abs=([],4):=by unfold cU;rw[if_neg p11,if_pos (by show 65536<v.batch.l.length+_;omega)]
  simp only[e];exact abW
 have p28b:¬65536<v.abs.batch.length+iz v.abs.cert:=by show ¬65536<v.batch.l.length+_;omega
 refine gG ?_;refine ze rfl (zc (LH om (by have:=p11;rw[fL]at this;omega) (fun x hx=>by have:=xP v.abs.cert x.l (Xd.2 ⟨x,hx,rfl⟩);omega)) rfl (fun x30=>gG ?_));refine yC ?_ ?_<;>intro h31 p31<;>refine gG ?_
 ·have e:cU v.abs=([],4):=by unfold cU;rw[if_neg p11,if_neg p28b,if_pos om]
  simp only[e];exact abW
 refine ze rfl (zc (BM) rfl (fun x37=>gG ?_));refine yC ?_ ?_<;>intro h35 p35<;>refine gG ?_
 ·have e:cU v.abs=([],15):=by unfold cU;rw[if_neg p11,if_neg p28b,if_neg om,if_neg (by simpa using h35)]
  simp only[e];exact abW
 have e:cU v.abs=(told v.abs,0):=by unfold cU;rw[if_neg p11,if_neg p28b,if_neg om,if_pos (by simpa using h35)]
 simp only[e];exact zX ⟨x30.a,x30.c⟩ [_,_] results84 ⟨rfl,rfl,trivial⟩ rfl SB
theorem Cc(h1:¬500<v.batch.l.length)(h2:¬20<v.cert.ls.length)(h3:((v.cert.ls.map BS.l).any fun c=>decide (300<c.length))=false):il v.abs=false:=by
 have e1:decide (500<v.abs.batch.length)=false:=decide_eq_false h1;have e2:decide (20<v.abs.cert.length)=false:=decide_eq_false (by rw[fL];exact h2);have e3:(v.abs.cert.any fun c=>decide (300<c.length))=false:=h3;simp only[il,e1,e2,e3,Bool.or_self]
theorem HC(h:500<v.batch.l.length):il v.abs=true:=by simp[il,af.abs,h]
theorem GI(h:20<v.cert.ls.length):il v.abs=true:=by simp[il,af.abs,h]
theorem GK(k:Nat)(hk:k<v.cert.ls.length)(h:300<v.cert.ls[k].l.length):il v.abs=true:=by
 have:(v.abs.cert.any fun c=>decide (300<c.length))=true:=w7 _ v.abs.cert k (by rw[fL];exact hk) (by simpa[af.abs]using h);simp[il,this]
theorem uW(k:Nat)(hk:k<vs.length)(h:il vs[k].abs=true):mq (vs.map af.abs)=true:=by
 have:=w7 il (vs.map af.abs) k abf afh;simp[mq,this]
theorem fw{i:Nat}(hi:i<vs.length):0<(vs.flatMap af.list).length:=by rw[fy _ 38 af.ae];omega
class jF(w0:World)(H:List SA)(vs:List af):Prop where
 b:∀v∈vs,dT w0 H (.slice v.batch.a v.batch.l.length v.batch.c) v.batch.l
 c:∀v∈vs,gy w0 H (.slice v.cert.a v.cert.ls.length v.cert.c) 1 (v.cert.ls.map BS.val)
 e:∀v∈vs,ju w0 H v.cert.ls
instance jF.tail{x:SA}[h:jF w0 H vs]:jF w0 (x::H) vs:=⟨fun v hv=>have:=h.b v hv;inferInstance,fun v hv=>have:=h.c v hv;inferInstance,fun v hv=>have:=h.e v hv;inferInstance⟩
theorem NK{a:Option Addr}{c:Nat}[hr:gy w0 H (.slice a vs.length c) 38 (vs.flatMap af.list)][rv:jF w0 H vs]:CT prog w0 (H) 19 [.slice a vs.length c] (α:=Unit) (fun _=> .bool (mq (vs.map af.abs))) (fun _=>H):=by
 refine al func19 rfl ntmps19 rfl (gG ?_);refine yC ?_ ?_<;>intro h7 p7<;>refine gG ?_
 ·have e:mq (vs.map af.abs)=true:=by simp[mq];left;omega
  exact ach
 refine bH [2,3,4,8,9,10,11,12,13,14,15,16,17,18,19,20,21,22,23,24,25,26,27,28,29,30,31,32,33,34,35,36,37,38,39,40,41,42,43,44,45,46,47,48,49] [3] (fun us H'=>∃i:Nat,us=[.int .i64 (i:Int)]/\H=H'/\i<=vs.length/\((vs.map af.abs).take i).any il=false) (fun us=>match us with| .int _ i::_=>vs.length-i.toNat|_=>0) ⟨0,rfl,rfl,om,rfl⟩ SB ?_;rintro τ0 _ _ ⟨i,rfl,rfl,hi0,hpre⟩ _;refine gG ?_;refine yC ?_ ?_<;>intro h11 p11
 ·have hi:i<vs.length:=om;refine gG ?_;refine zq (bn rfl rfl om om) rfl (zq (cm rfl 38 (fw hi)) rfl (zq (cE 38 (.slice _ _ _) rfl (fA vs i 36 hi dc inferInstance)) rfl ?_));refine gG ?_;refine yS 21 ?_ ?_<;>intro h21 p21<;>refine gG ?_
  ·refine Zc ?_;refine Zd ?_;have e:=uW i hi (HC om);exact ach
  refine Zo ?_;refine ZD ?_;refine zq (cE 38 (.slice _ _ _) rfl (fA vs i 37 hi dc inferInstance)) rfl ?_;refine gG ?_;refine yC ?_ ?_<;>intro h29 p29<;>refine gG ?_
  ·refine Zd ?_;have e:=uW i hi (GI om);exact ach
  refine bH [2,4,30,31,32,33,34,35,36,37,38,39,40,41,42,43,44,45,46,47,48,49] [4] (fun us H'=>∃k:Nat,us=[.int .i64 (k:Int)]/\H=H'/\k<=vs[i].cert.ls.length/\((vs[i].cert.ls.map BS.l).take k).any (fun c=>decide (300<c.length))=false) (fun us=>match us with| .int _ k::_=>vs[i].cert.ls.length-k.toNat|_=>0) ⟨0,rfl,rfl,om,rfl⟩ SB ?_;rintro τ1 _ _ ⟨k,rfl,rfl,hk0,hpre2⟩ _;refine gG ?_;refine aad ?_;refine yC ?_ ?_<;>intro h37 p37
  ·have hk:k<vs[i].cert.ls.length:=om;refine gG ?_;refine aad ?_;have:=rv.c vs[i] (W1 hi);refine ZB ?_;refine yC ?_ ?_<;>intro h49 p49
   ·refine gG ?_;refine Zd ?_;refine Zd ?_;have e:=uW i hi (GK k hk om);exact ach
   refine gA ?_;refine bW _ zA (⟨k+1,rfl,rfl,om,iP _ (vs[i].cert.ls.map BS.l) k abf hpre2 so⟩) (by show vs[i].cert.ls.length-(k+1:Int).toNat<vs[i].cert.ls.length-(k:Int).toNat;omega) (SB)
  have et2:(vs[i].cert.ls.map BS.l).take k=vs[i].cert.ls.map BS.l:=W7 so;rw[et2]at hpre2;have hone:il vs[i].abs=false:=Cc om om hpre2;refine gG ?_;refine ZA ?_;refine bW _ zA (⟨i+1,rfl,rfl,om,iP il (vs.map af.abs) i acq hpre (by simpa using hone)⟩) aaA (SB)
 have et:(vs.map af.abs).take i=vs.map af.abs:=W7 so;rw[et]at hpre;refine gG ?_;refine Za ?_;have e:mq (vs.map af.abs)=false:=by simp only[mq,hpre,Bool.or_false];simp;omega
 exact ach
end
end Go.Proofs.YtmbfimckmfnnjaaGreatDoor
