/- Steps of the proof of a law. -/
import Derived.Test.YtmbfimckmfnnjaaGreatDoorQ26
set_option maxRecDepth 100000
set_option maxHeartbeats 1000000
set_option linter.unusedSimpArgs false
set_option linter.unusedVariables false
namespace Go.Proofs.YtmbfimckmfnnjaaGreatDoor
open Go.RowKit Go.Sx Go.Proofs.Tryz
section
variable {cs:Vector ax 16} {kd a b m:Int} {k:Nat}
theorem uK(hk:k<16)(h:kd=1)(hm:m=tg cs[k].there cs[k].n):tK cs kd (k:Int) a b=(cs,⟨cs[k].there,m⟩):=by
 subst h;rw[oL hk dc dc,if_neg sm,←hm];rfl
theorem wa(hk:k<16)(h:kd=2)(hm:m=tg cs[k].there cs[k].n):tK cs kd (k:Int) a b=(cs.set k ⟨true,a⟩ hk,⟨true,m⟩):=by
 subst h;rw[oL hk dc dc,if_pos ⟨dc,.inl dc⟩,←hm];rfl
theorem wI(hk:k<16)(h:kd=3)(hm:m=tg cs[k].there cs[k].n):tK cs kd (k:Int) a b=(cs.set k ⟨true,IntKind.i64.wrap (m+a)⟩ hk,⟨true,IntKind.i64.wrap (m+a)⟩):=by
 subst h;rw[oL hk dc dc,if_pos ⟨dc,.inl dc⟩,←hm];rfl
theorem qE(hk:k<16)(h:kd=4)(hm:m=tg cs[k].there cs[k].n)(ht:cs[k].there=true)(ha:m=a):tK cs kd (k:Int) a b=(cs.set k ⟨true,b⟩ hk,⟨true,b⟩):=by
 subst h;have e:jh cs[k].there (tg cs[k].there cs[k].n) 4 a b=(⟨true,b⟩,⟨true,b⟩):=by
   rw[←hm];show(if cs[k].there=true/\m=a then _ else _)=_;rw[if_pos ⟨ht,ha⟩]
 rw[Dj hk dc dc e.symm ⟨dc,.inr rfl⟩]
theorem qP(hk:k<16)(h:kd=4)(hm:m=tg cs[k].there cs[k].n)(ht:¬(cs[k].there=true/\m=a)):tK cs kd (k:Int) a b=(cs,⟨false,m⟩):=by
 subst h;have e:jh cs[k].there (tg cs[k].there cs[k].n) 4 a b=(⟨cs[k].there,m⟩,⟨false,m⟩):=by
   rw[←hm];show(if cs[k].there=true/\m=a then _ else _)=_;rw[if_neg ht]
 rw[De hk dc dc e.symm sm]
theorem vr(hk:k<16)(h:kd=5)(hm:m=tg cs[k].there cs[k].n):tK cs kd (k:Int) a b=(cs.set k ax.zero hk,⟨cs[k].there,m⟩):=by
 subst h;rw[oL hk dc dc,if_pos ⟨dc,.inl dc⟩,←hm];rfl
theorem LJ{w0:World}{H:List SA}{ky:Int}:CT prog w0 (H) 153 [.agg (bJ ax.list cs).toArray,.agg (gn.mk kd ky a b).cells] (α:=Unit) (fun _=> .tuple #[.agg (bJ ax.list (tK cs kd ky a b).1).toArray,.agg (tK cs kd ky a b).2.cells]) (fun _=>H):=by
 refine al func153 rfl ntmps153 rfl (gG ?_);refine ze rfl (aZ rfl (fun b2=>?_));refine ze rfl (aZ rfl (fun b3=>?_));refine ze rfl (an (fun b4=>?_));refine ze rfl (an (fun b5=>gG ?_));refine yS 12 ?_ ?_<;>intro h12 p12<;>refine gG ?_
 ·refine Zc ?_;refine aaC ?_;refine aa1 ?_;refine aag ?_;rw[k6 om];exact abL
 refine yS 17 ?_ ?_<;>intro h17 p17<;>refine gG ?_
 ·refine Zc ?_;refine aaC ?_;refine aa1 ?_;refine aag ?_;rw[k6 om];exact abL
 refine yS 22 ?_ ?_<;>intro h22 p22<;>refine gG ?_
 ·refine Zc ?_;refine aaC ?_;refine aa1 ?_;refine aag ?_;rw[k6 om];exact abL
 refine yC ?_ ?_<;>intro h26 p26
 ·refine gG ?_;refine aaC ?_;refine aa1 ?_;refine aag ?_;rw[k6 om];exact abL
 obtain⟨k,rfl⟩:∃k:Nat,ky=(k:Int):=⟨ky.toNat,om⟩;have hk16:k<16:=om;have h1:1<=kd:=om;have h5:kd<=5:=om;have hc0:aw (bJ ax.list cs).toArray (k*2) (.bool cs[k].there):=qg ax.list 2 ax.ae cs k 0 hk16 dc rfl;have hc1:aw (bJ ax.list cs).toArray (k*2+1) (.int .i64 cs[k].n):=qg ax.list 2 ax.ae cs k 1 hk16 dc rfl;refine gG ?_;refine zq (aQ (sz:=2) (k*2) k rfl rfl underlying37 rfl rfl ac3 om) rfl (zq (zf (k*2) rfl rfl) rfl (zq (zl rfl) rfl (zq (za (.bool _) rfl) rfl (zz (zx (zS (zR ?_)))))));refine zq (za (.int .i64 _) rfl) rfl (zz (zx (kT [7,34,35,36,37,38,39] [7] (fun us H'=>us=[.int .i64 (tg cs[k].there cs[k].n)]/\(aF b2 (.cells (bJ ax.list cs).toArray 37 (0,0))::aF b3 (.cells (gn.mk kd (k:Int) a b).cells 248 (0,0))::aF b4 (.cells (bJ ax.list (Vector.replicate 16 ax.zero)).toArray 37 (0,0))::aF b5 (.cells cI.zero.cells 39 (0,0))::H)=H') ?_ ?_)))
 ·refine gG ?_;refine yC ?_ ?_<;>intro h34 p34<;>refine gG ?_
  ·refine zq (aQ (sz:=2) (k*2) k rfl rfl underlying37 rfl rfl ac3 om) rfl (zq (zf (k*2+1) rfl rfl) rfl ?_);refine gG ?_;refine dU _ zA aiE (SB)
  refine dU _ zA aiE (SB)
 rintro τc0 _ _ ⟨rfl,rfl⟩ _;obtain⟨m,hm⟩:∃m,m=(tg cs[k].there cs[k].n):=⟨_,rfl⟩;rw[←hm];refine gG ?_;refine acg ?_;refine ze rfl (an (fun b8=>?_));refine aa1 ?_;refine zz (zx (kT [42,43,44,45,46,47,48,49,50,51,52,53,54,55,56,57,58,59,60,61,62,63,64,65,66,67,68,69,70,71,72,73,74,75,76,77,78,79,80,81,82,83,84,85,86,87,88,89,90,91,92,93,94,95,96,97] [] (fun us H'=>∃ds r,us=[]/\(aF b2 (.cells (bJ ax.list ds).toArray 37 (0,0))::aF b3 (.cells (gn.mk kd (k:Int) a b).cells 248 (0,0))::aF b4 (.cells (bJ ax.list (Vector.replicate 16 ax.zero)).toArray 37 (0,0))::aF b5 (.cells cI.zero.cells 39 (0,0))::aF b8 (.cells r.cells 39 (0,0))::H)=H'/\tK cs kd (k:Int) a b=(ds,r)) ?_ ?_))
 ·refine gG ?_;refine yC ?_ ?_<;>intro h50 p50<;>refine gG ?_
  ·refine abN ?_;refine dU _ zA aau (SB)
  refine yC ?_ ?_<;>intro h54 p54
  ·have hput:bD (bJ ax.list cs).toArray (k*2) (.agg ((ax.mk true a):ax).cells) (bJ ax.list (cs.set k (ax.mk true a) hk16)).toArray:=me ax.list 2 ax.ae cs k hk16 (ax.mk true a);refine gG ?_;refine zq (aA [(0,(.bool _)),(1,(.int .i64 _))] rfl kr) rfl (zq (aQ (sz:=2) (k*2) k rfl rfl underlying37 rfl rfl ac3 om) rfl ?_);refine aag ?_;refine dU _ zA aau (SB)
  refine gG ?_;refine yC ?_ ?_<;>intro h62 p62
  ·have hput:bD (bJ ax.list cs).toArray (k*2) (.agg ((ax.mk true (IntKind.i64.wrap (m+a))):ax).cells) (bJ ax.list (cs.set k (ax.mk true (IntKind.i64.wrap (m+a))) hk16)).toArray:=me ax.list 2 ax.ae cs k hk16 (ax.mk true (IntKind.i64.wrap (m+a)));refine gA ?_;refine aaI ?_;refine zq (aA [(0,(.bool _)),(1,(.int .i64 _))] rfl kr) rfl (zq (aQ (sz:=2) (k*2) k rfl rfl underlying37 rfl rfl ac3 om) rfl ?_);refine aag ?_;refine dU _ zA aau (SB)
  refine gG ?_;refine yC ?_ ?_<;>intro h77 p77
  ·refine gG ?_;refine yS 80 ?_ ?_<;>intro h80 p80<;>refine gG ?_
   ·refine abN ?_;refine yC ?_ ?_<;>intro h88 p88
    ·rw[h88];have hput:bD (bJ ax.list cs).toArray (k*2) (.agg ((ax.mk true b):ax).cells) (bJ ax.list (cs.set k (ax.mk true b) hk16)).toArray:=me ax.list 2 ax.ae cs k hk16 (ax.mk true b);refine gG ?_;refine aax ?_;refine zq (aA [(0,(.bool _)),(1,(.int .i64 _))] rfl kr) rfl (zq (aQ (sz:=2) (k*2) k rfl rfl underlying37 rfl rfl ac3 om) rfl ?_);refine aag ?_;refine dU _ zA aau (SB)
    rw[h88];refine gG ?_;refine dU _ zA aau (SB)
   refine abN ?_;refine yC ?_ ?_<;>intro h88 p88
   ·
    cases h88
   refine gG ?_;refine dU _ zA aau (SB)
  have hput:bD (bJ ax.list cs).toArray (k*2) (.agg (ax.zero:ax).cells) (bJ ax.list (cs.set k ax.zero hk16)).toArray:=me ax.list 2 ax.ae cs k hk16 ax.zero;refine gG ?_;refine abN ?_;refine zq (aA [] rfl kr) rfl (zq (aQ (sz:=2) (k*2) k rfl rfl underlying37 rfl rfl ac3 om) rfl ?_);refine aag ?_;refine dU _ zA aau (SB)
 rintro τc1 _ _ ⟨ds,r,-,rfl,hds⟩ _;refine gG ?_;refine dw (aF b2 (.cells (bJ ax.list ds).toArray 37 (0,0))::aF b8 (.cells r.cells 39 (0,0))::H) [(0,true),(1,true),(2,false),(3,false)] (fun hns2=>?_);refine gA ?_;refine abd ?_;refine aaE ?_;rw[hds];exact abL
end
section
def jo(r:fD):Bool:=decide (0<=r.aG/\r.aG<6)&&aK r.aG r.kind r.key r.a r.b
structure WS where
 cs:Vector ax 16
 last:Vector ar 6
 nx:aH
 out:List ar
def iY(view:aH)(cs:Vector ax 16)(nx:aH)(r:fD):Vector ax 16×aH×cI:=
 if r.kind=6 then(if (iC view.num view.mask.toNat r.a).2=0/\nx=view then(cs,(iC view.num view.mask.toNat r.a).1,⟨true,(iC view.num view.mask.toNat r.a).1.num⟩)else(cs,nx,cI.zero))
 else((tK cs r.kind r.key r.a r.b).1,nx,(tK cs r.kind r.key r.a r.b).2)
def lj(view:aH)(slot:Int)(s:WS)(r:fD):WS:=
 if h:0<=r.aG/\r.aG<6 then
   if aK r.aG r.kind r.key r.a r.b=true/\(s.last[r.aG.toNat]'om).seq<r.seq then
     ⟨(iY view s.cs s.nx r).1,s.last.set r.aG.toNat ⟨r.aG,r.seq,slot,(iY view s.cs s.nx r).2.2⟩ om,(iY view s.cs s.nx r).2.1,s.out++[⟨r.aG,r.seq,slot,(iY view s.cs s.nx r).2.2⟩]⟩
   else s
 else s
theorem pQ{view:aH}{slot:Int}{s:WS}{r:fD}(h:jo r=false):lj view slot s r=s:=by
 unfold lj
 split
 · rename_i h1
   rw[if_neg];rintro⟨h2,-⟩;rw[jo,decide_eq_true h1,h2]at h;cases h
 · rfl
theorem yu{view:aH}{slot:Int}{s:WS}{r:fD}{c:Nat}(hc:r.aG=(c:Int))(hc6:c<6)(h:r.seq<=(s.last[c]).seq):lj view slot s r=s:=by
 unfold lj;rw[dif_pos ⟨om,om⟩,if_neg];rintro⟨-,h2⟩;have:r.aG.toNat=c:=om;simp only[this]at h2;omega
theorem xQ{view:aH}{slot:Int}{s:WS}{r:fD}{c:Nat}(hc:r.aG=(c:Int))(hc6:c<6)(hk:jo r=true)(h:(s.last[c]).seq<r.seq){cs:Vector ax 16}{nx:aH}{res:cI}(hd:iY view s.cs s.nx r=(cs,nx,res)):lj view slot s r=⟨cs,s.last.set c ⟨r.aG,r.seq,slot,res⟩ hc6,nx,s.out++[⟨r.aG,r.seq,slot,res⟩]⟩:=by
 unfold lj;simp only[jo,Xz]at hk;have ht:r.aG.toNat=c:=om;rw[dif_pos ⟨om,om⟩,if_pos ⟨hk.2,by simp only[ht];exact h⟩,hd];simp only[ht]
def sH(view:aH)(slot:Int)(s:WS)(rs:List fD):WS:=rs.foldl (lj view slot) s
theorem yW{view:aH}{slot:Int}{s:WS}{rs:List fD}{k:Nat}(hk:k<rs.length):sH view slot s (rs.take (k+1))=lj view slot (sH view slot s (rs.take k)) rs[k]:=by
 unfold sH;rw[Xf hk,X0];rfl
def jt(w:aj)(rs:List fD):aj×List ar:=
 let s:=sH w.view (w.slot+1) ⟨w.cs,w.last,w.view,[]⟩ rs
 if s.nx=w.view then(⟨w.slot+1,w.first,w.view,w.view,s.cs,s.last⟩,s.out)else(⟨w.slot+1,w.slot+1+1,s.nx,w.view,s.cs,s.last⟩,s.out)
theorem rO{sl f:Int}{v fM:aH}{cs:Vector ax 16}{la:Vector ar 6}{rs:List fD}{s:WS}(hs:s=sH v (sl+1) ⟨cs,la,v,[]⟩ rs)(h:s.nx=v):jt ⟨sl,f,v,fM,cs,la⟩ rs=(⟨sl+1,f,v,v,s.cs,s.last⟩,s.out):=by
 subst hs;exact if_pos h
theorem sD{sl f:Int}{v fM:aH}{cs:Vector ax 16}{la:Vector ar 6}{rs:List fD}{s:WS}(hs:s=sH v (sl+1) ⟨cs,la,v,[]⟩ rs)(h:¬s.nx=v):jt ⟨sl,f,v,fM,cs,la⟩ rs=(⟨sl+1,sl+1+1,s.nx,v,s.cs,s.last⟩,s.out):=by
 subst hs;exact if_neg h
theorem tN{v:aH}{cs:Vector ax 16}{nx:aH}{q:aJ}(h:¬q.op.kind=6):iY v cs nx q.abs=((tK cs q.op.kind q.op.key q.op.a q.op.b).1,nx,(tK cs q.op.kind q.op.key q.op.a q.op.b).2):=if_neg h
theorem tI{num:Int}{mk:Nat}{cs:Vector ax 16}{nx:aH}{q:aJ}(h:q.op.kind=6)(h0:(iC num mk q.op.a).2=0)(hn:nx=⟨num,(mk:Int)⟩):iY ⟨num,(mk:Int)⟩ cs nx q.abs=(cs,(iC num mk q.op.a).1,⟨true,(iC num mk q.op.a).1.num⟩):=by
 unfold iY;rw[if_pos (show q.abs.kind=6 from h),if_pos ⟨h0,hn⟩];rfl
theorem tJ{num:Int}{mk:Nat}{cs:Vector ax 16}{nx:aH}{q:aJ}(h:q.op.kind=6)(h0:(iC num mk q.op.a).2=0->¬nx=⟨num,(mk:Int)⟩):iY ⟨num,(mk:Int)⟩ cs nx q.abs=(cs,nx,cI.zero):=by
 unfold iY;rw[if_pos (show q.abs.kind=6 from h),if_neg (fun hh=>h0 hh.1 hh.2)]
instance PA{v:aj}{u:Int}:bD v.cells 0 (.int .i64 u) {v with slot:=u}.cells:=by
 have:=bD.fr [] v.p0 (v.p1++(v.view.list++(v.fM.list++(v.p4++v.p5)))) (cs:=v.cells) (o:=0) (n:=1) (v:= .int .i64 u) (by simp only[aj.cells,aj.list,Xh]) rfl rfl rfl;simpa[aj.cells,aj.list,Value.cells]using this
section
variable {a b:Int} {c d:aH} {e:Vector ax 16} {f:Vector ar 6}
instance UF{u:Int}:bD (aj.mk a b c d e f).cells 0 (.int .i64 u) (aj.mk u b c d e f).cells:=PA
instance VK{u:Int}:bD (aj.mk a b c d e f).cells 1 (.int .i64 u) (aj.mk a u c d e f).cells:=Po
instance UT{u:aH}:bD (aj.mk a b c d e f).cells 2 (.agg u.cells) (aj.mk a b u d e f).cells:=Pg
instance Ul{u:aH}:bD (aj.mk a b c d e f).cells 4 (.agg u.cells) (aj.mk a b c u e f).cells:=PH
instance UR{u:Vector ax 16}:bD (aj.mk a b c d e f).cells 6 (.agg (bJ ax.list u).toArray) (aj.mk a b c d u f).cells:=Pt
instance Sv:aw (aj.mk a b c d e f).cells 0 (.int .i64 a):=PE
instance Ty:dh (aj.mk a b c d e f).cells 2 2 c.cells:=PG
end
theorem Cs(v:aj)(c:Nat)(hc:c<6):aw v.cells (38+c*5+1) (.int .i64 v.last[c].seq):=⟨by
 have h:=(aj.Dd v c hc).ok;have h2:=congrArg (fun x:Array Value=>x[1]?) h;simp only[Array.getElem?_extract]at h2;rw[show(v.last[c].cells)[1]? =some (.int .i64 v.last[c].seq)from(inferInstance:aw v.last[c].cells 1 (.int .i64 v.last[c].seq)).ok]at h2;rw[←h2];have:=v.size;rw[if_pos om]⟩
theorem K7{w0:World}{H:List SA}{r:aJ}:CT prog w0 (H) 223 [.agg r.cells] (α:=Unit) (fun _=> .bool (jo r.abs)) (fun _=>H):=by
 refine al func223 rfl ntmps223 rfl (gG ?_);refine ze rfl (aZ rfl (fun b1=>gG ?_));refine yS 6 ?_ ?_<;>intro h6 p6<;>refine gG ?_
 ·refine yS 11 ?_ ?_<;>intro h11 p11<;>refine gG ?_
  ·refine ze rfl (zc (Fc (c:=r.aG) (o:=r.op)) rfl (fun x16=>gG ?_));exact aca
  exact aca
 exact aca
theorem Gg{w0:World}{H:List SA}{sl f num:Int}{mk:Nat}(hmk:mk<65536){fM:aH}{cs:Vector ax 16}{la:Vector ar 6}(hsl: -4611686018427387904<=sl/\sl<=4611686018427387904){a:Option Addr}{c:Nat}{ls:List aJ}[hr:gy w0 H (.slice a ls.length c) 7 (ls.flatMap aJ.list)](hn:ls.length<=100):CT prog w0 (H) 139 [.agg (aj.mk sl f (aH.mk num (mk:Int)) fM cs la).cells,.slice a ls.length c] (α:=AC) (fun y=> .tuple #[.agg (jt (aj.mk sl f (aH.mk num (mk:Int)) fM cs la) (ls.map aJ.abs)).1.cells,.slice y.a (jt (aj.mk sl f (aH.mk num (mk:Int)) fM cs la) (ls.map aJ.abs)).2.length y.c]) (fun y=>row (.slice y.a ((jt (aj.mk sl f (aH.mk num (mk:Int)) fM cs la) (ls.map aJ.abs)).2).length y.c) 41 5 (((jt (aj.mk sl f (aH.mk num (mk:Int)) fM cs la) (ls.map aJ.abs)).2).flatMap ar.list)::H):=by
 refine al func139 rfl ntmps139 rfl (gG ?_);refine ze rfl (aZ rfl (fun b2=>?_));refine ze rfl (an (fun b4=>gG ?_));refine aag ?_
 first|refine yP rfl rfl ?_|refine zq (bU rfl rfl) rfl ?_
 refine gG ?_;refine aax ?_;refine ze rfl (an (fun b6=>?_));refine aag ?_;refine bH [7,9,10,11,12,13,25,26,27,28,29,30,31,32,33,34,35,36,37,38,39,40,41,42,43,44,45,46,47,48,49,50,51,52,53,54,55,56,57,58,59,60,61,62,63,64,65,66,67,68,69,70,71,72,73,74,75,76,77,78,79,80,81,82,83,84,85,86,87,88,89,90,91,92,93,94] [25,7] (fun us H'=>∃(k:Nat)(a7:Option Addr)(c7:Nat)(s:WS),us=[.int .i64 (k:Int),.slice a7 s.out.length c7]/\aF b2 (.cells (aj.mk (sl+1) f (aH.mk num (mk:Int)) (aH.mk num (mk:Int)) s.cs s.last).cells 44 (0,0))::aF b4 (.cells aj.zero.cells 44 (0,0))::aF b6 (.cells s.nx.cells 33 (0,0))::row (.slice a7 (s.out).length c7) 41 5 ((s.out).flatMap ar.list)::H=H'/\k<=ls.length/\(s=sH (aH.mk num (mk:Int)) (sl+1) (WS.mk cs la (aH.mk num (mk:Int)) []) ((ls.map aJ.abs).take k))/\(s.out.length<=k)) (fun us=>match us with| .int _ i::_=>ls.length-i.toNat|_=>0) ⟨0,none,0,(WS.mk cs la (aH.mk num (mk:Int)) []),rfl,rfl,om,rfl,Xv _⟩ (fun w hw=>by
  have h0:St w0 (aF b2 (.cells (aj.mk (sl+1) f (aH.mk num (mk:Int)) (aH.mk num (mk:Int)) cs la).cells 44 (0,0))::aF b4 (.cells aj.zero.cells 44 (0,0))::aF b6 (.cells (aH.mk num (mk:Int)).cells 33 (0,0))::H) w:=SB w hw;exact(cJ.st inferInstance w (h0.cT 41 5):St w0 (aF b2 (.cells (aj.mk (sl+1) f (aH.mk num (mk:Int)) (aH.mk num (mk:Int)) cs la).cells 44 (0,0))::aF b4 (.cells aj.zero.cells 44 (0,0))::aF b6 (.cells (aH.mk num (mk:Int)).cells 33 (0,0))::row (.slice none 0 0) 41 5 []::H) w)) ?_
 rintro τ0 _ _ ⟨k,a7,c7,s,rfl,rfl,hk0,hs,ho⟩ _;refine gG ?_;refine yC ?_ ?_<;>intro h26 p26<;>try simp only at p26
 ·have hk:k<ls.length:=om;have hgk:((ls.map aJ.abs)[k]'abf)=ls[k].abs:=sm;have hrun:=yW (view:=(aH.mk num (mk:Int))) (slot:=sl+1) (s:=(WS.mk cs la (aH.mk num (mk:Int)) [])) (rs:=(ls.map aJ.abs)) (k:=k) abf;rw[hgk,←hs]at hrun;refine gG ?_;refine zq (bn rfl rfl om om) rfl ?_;refine adp ?_;refine ze rfl (an (fun b9=>?_));refine aag ?_;refine dw (aF b9 (.cells ls[k].cells 250 (0,0))::aF b2 (.cells (aj.mk (sl+1) f (aH.mk num (mk:Int)) (aH.mk num (mk:Int)) s.cs s.last).cells 44 (0,0))::H) [(0,true),(1,false),(2,true),(3,true),(4,true),(5,true),(6,true),(7,true),(8,true),(9,true),(10,true),(11,true),(12,true),(13,true)] (fun hns0=>?_);refine zd hns0 rfl (zn rfl rfl) rfl ?_;refine cX rfl rfl (zc (K7 (r:=ls[k])) rfl (fun x30=>⟨SB,?_⟩));refine zd hns0 rfl (tm rfl) rfl ?_;refine aeQ ?_;refine yD 32 ?_ ?_<;>intro h32 p32<;>try simp only at p32
  ·have hst:=pQ (view:=(aH.mk num (mk:Int))) (slot:=sl+1) (s:=s) (show jo ls[k].abs=false from by simpa using h32);refine aaQ ?_;refine aaQ ?_;refine aaQ ?_;refine aaQ ?_;refine aaQ ?_;refine aaQ ?_;refine aaQ ?_;refine aaQ ?_;refine aaQ ?_;refine zd hns0 rfl (zT (.bool _) rfl h32 rfl) rfl ?_;refine gz ?_;refine gG ?_;refine Zc ?_
   first|refine yP rfl rfl ?_|refine zq (bU rfl rfl) rfl ?_
   refine gG ?_;exact aaB
  have hkn:jo ls[k].abs=true:=by simpa using h32
  obtain⟨cl,hcl⟩:∃c:Nat,ls[k].abs.aG=(c:Int):=by
   have h:=hkn;simp only[jo,Xz,decide_eq_true_eq]at h;exact⟨ls[k].abs.aG.toNat,om⟩
  have hc6:cl<6:=by
   have h:=hkn;simp only[jo,Xz,decide_eq_true_eq]at h;omega
  have hlseq:aw (aj.mk (sl+1) f (aH.mk num (mk:Int)) (aH.mk num (mk:Int)) s.cs s.last).cells (38+cl*5+1) (.int .i64 s.last[cl].seq):=Cs (aj.mk (sl+1) f (aH.mk num (mk:Int)) (aH.mk num (mk:Int)) s.cs s.last) cl hc6;refine bB hns0 rfl rfl rfl h32 (zf 1 rfl rfl) rfl ?_;refine adB ?_;refine bB hns0 rfl rfl rfl h32 (zf 0 rfl rfl) rfl ?_;refine adB ?_;refine bB hns0 rfl rfl rfl h32 (zf 38 rfl rfl) rfl ?_;refine bB hns0 rfl rfl rfl h32 (aQ (sz:=5) (38+cl*5) cl rfl (show Value.int .i64 ls[k].aG= .int .i64 ((cl:Nat):Int)from by rw[show ls[k].aG=(cl:Int)from hcl]) underlying42 rfl rfl ahG om) rfl ?_;refine bB hns0 rfl rfl rfl h32 (zf (38+cl*5+1) rfl rfl) rfl ?_;refine adB ?_;refine bB hns0 rfl rfl rfl h32 (A3 rfl rfl) rfl ?_;refine zd hns0 rfl (zF (.bool _) rfl h32 rfl) rfl ?_;refine gz ?_;refine gG ?_;refine yC ?_ ?_<;>intro h42 p42<;>try simp only at p42
  ·have hst:=yu (view:=(aH.mk num (mk:Int))) (slot:=sl+1) (s:=s) hcl hc6 (show ls[k].abs.seq<=s.last[cl].seq from p42);refine gG ?_
   first|refine yP rfl rfl ?_|refine zq (bU rfl rfl) rfl ?_
   refine gG ?_;exact aaB
  refine gG ?_;refine ze rfl (an (fun b10=>?_));refine zz ?_;refine zx ?_;refine kT [11,12,43,44,45,46,47,48,49,50,51,52,53,54,55,56,57,58,59,60,61,62,63,64,65,66,67,68,69,70,71,72,73,74,75,76] [] (fun us H'=>∃(cs':Vector ax 16)(nx':aH)(res:cI),us=[]/\(aF b2 (.cells (aj.mk (sl+1) f (aH.mk num (mk:Int)) (aH.mk num (mk:Int)) cs' s.last).cells 44 (0,0))::aF b4 (.cells aj.zero.cells 44 (0,0))::aF b6 (.cells nx'.cells 33 (0,0))::row (.slice a7 (s.out).length c7) 41 5 ((s.out).flatMap ar.list)::aF b9 (.cells ls[k].cells 250 (0,0))::aF b10 (.cells res.cells 39 (0,0))::H)=H'/\iY (aH.mk num (mk:Int)) s.cs s.nx ls[k].abs=(cs',nx',res)) ?_ ?_
  ·refine gG ?_;refine yC ?_ ?_<;>intro h46 p46<;>(try simp only at p46)<;>refine gG ?_
   ·refine ze rfl (zc (L0 hmk) rfl (fun x53=>gG ?_));refine ze rfl (an (fun b11=>?_));refine aag ?_;refine yS 58 ?_ ?_<;>intro h58 p58<;>(try simp only at p58)<;>refine gG ?_
    ·refine ZJ ?_;refine yC ?_ ?_<;>intro h63 p63<;>(try simp only at p63)<;>refine gG ?_
     ·refine aag ?_;refine acg ?_;refine aag ?_;refine dU _ zA abi (SB)
     refine dU _ zA abi (SB)
    refine Zi ?_;refine dU _ zA abi (SB)
   refine ze rfl (zc (NM) rfl (fun x73=>gG ?_));refine aa1 ?_;refine aag ?_;refine dU _ zA abi (SB)
  rintro τc1 _ _ ⟨cs1,nx1,res,-,rfl,hdn⟩ _;have hst:=xQ (view:=(aH.mk num (mk:Int))) (slot:=sl+1) (s:=s) hcl hc6 hkn (show s.last[cl].seq<ls[k].abs.seq from p42) hdn;have hput:bD (aj.mk (sl+1) f (aH.mk num (mk:Int)) (aH.mk num (mk:Int)) cs1 s.last).cells (38+cl*5) (.agg (ar.mk ls[k].aG ls[k].seq (sl+1) res).cells) (aj.mk (sl+1) f (aH.mk num (mk:Int)) (aH.mk num (mk:Int)) cs1 (s.last.set cl (ar.mk ls[k].aG ls[k].seq (sl+1) res) hc6)).cells:=wu (aj.mk (sl+1) f (aH.mk num (mk:Int)) (aH.mk num (mk:Int)) cs1 s.last) cl hc6 _;refine gG ?_;refine ac5 ?_;refine ze rfl (an (fun b13=>?_));refine aag ?_;refine zq (zf 38 rfl rfl) rfl ?_;refine zq (aQ (sz:=5) (38+cl*5) cl rfl (show Value.int .i64 ls[k].aG= .int .i64 ((cl:Nat):Int)from by rw[show ls[k].aG=(cl:Int)from hcl]) underlying42 rfl rfl ahG om) rfl ?_;refine aag ?_;refine ze rfl (cr (m:=([(ar.mk ls[k].aG ls[k].seq (sl+1) res)]:List ar).length) [.agg (ar.mk ls[k].aG ls[k].seq (sl+1) res).cells] (([(ar.mk ls[k].aG ls[k].seq (sl+1) res)]:List ar).flatMap ar.list) rfl rfl rfl rfl (by simp[Value.cells,ar.size]) rfl rfl (fun a92 c92=>?_));refine ze rfl (cp ar.list (sv:= .slice _ _ _) (xv:= .slice _ _ _) (xs:=s.out) (ys:=[(ar.mk ls[k].aG ls[k].seq (sl+1) res)]) ar.ae ar.aS rfl rfl so rfl rfl (fun a93 c93=>gG ?_))
  first|refine yP rfl rfl ?_|refine zq (bU rfl rfl) rfl ?_
  refine gG ?_;exact aaB
 have hkn:k=ls.length:=om;subst hkn;rw[W7 sm]at hs;refine gG ?_;refine Za ?_;refine ZQ ?_;refine yC ?_ ?_<;>intro h98 p98<;>(try simp only at p98)<;>refine gG ?_
 ·first|refine yP rfl rfl ?_|refine zq (bU rfl rfl) rfl ?_
  refine gG ?_;refine aag ?_;refine aax ?_;refine aag ?_;have e:=(by first|exact sD (f:=f) (fM:=fM) hs p98|exact rO (f:=f) (fM:=fM) hs p98:jt (aj.mk sl f (aH.mk num (mk:Int)) fM cs la) (ls.map aJ.abs)=_);rw[e];exact afa
 refine aag ?_;have e:=(by first|exact sD (f:=f) (fM:=fM) hs p98|exact rO (f:=f) (fM:=fM) hs p98:jt (aj.mk sl f (aH.mk num (mk:Int)) fM cs la) (ls.map aJ.abs)=_);rw[e];exact afa
end
end Go.Proofs.YtmbfimckmfnnjaaGreatDoor
