/- Steps of the proof of a law. -/
import Derived.Test.YtmbfimckmfnnjaaGreatDoorQ32
import Derived.Test.YtmbfimckmfnnjaaGreatDoorQ33
import Derived.Test.YtmbfimckmfnnjaaGreatDoorQ35
set_option maxRecDepth 100000
set_option maxHeartbeats 1000000
set_option linter.unusedSimpArgs false
set_option linter.unusedVariables false
namespace Go.Proofs.YtmbfimckmfnnjaaGreatDoor
open Go.RowKit Go.Sx Go.Proofs.Tryz
section
def eA:ByteArray:=⟨#[108,111,103]⟩
variable {w0:World} {H:List SA} {s:DS} {t:LS} {M K q sb p lp bp:Nat} {fu:Bool}
theorem jN{P:Program}{n:Fr}{S:List SA}{ops:Array Oper}{fuel:Nat}{listed:Array Bool}{i:Nat}{σ:Env}{H':List SA}{Q:iM}(hs:∀w,St w0 H w->St w0 H' w)(h:Kx P n w0 S ops fuel listed i σ H' Q):Kx P n w0 S ops fuel listed i σ H Q:=fun a w ha hw hS=>h a w ha (hs w hw) hS
def fY(v:dm):List UInt8:=2::(cU v).1
theorem IA(v:dm):([2]:List UInt8)++(cU v).1=fY v:=rfl
theorem jl(v:dm):(fY v).length=(cU v).1.length+1:=rfl
@[reducible] def qi(q sb p lp bp:Nat)(fu:Bool):SA:=aF q (.cells (bq.mk (some ⟨sb,0,none⟩) (some ⟨p,0,none⟩) (some ⟨lp,0,none⟩) (some ⟨bp,0,none⟩) fu).cells 84 (0,0))
@[reducible] def SH(q sb p lp bp:Nat)(fu:Bool)(t:LS)(s:DS)(y:cb)(H:List SA):List SA:=qi q sb p lp bp fu::bm lp p eA t::bP t::cb.H y bp (DS.H p s H)
structure Jn where
 fu:Bool
 t:LS
 s:DS
 y:cb
 e:Int
def Ox(fu:Bool)(y:cb)(v:dm)(e:Int):Prop:=
 (fu=true/\e=4)∨(((cU v).2≠0∨30000<(cU v).1.length)/\e=15)∨((cU v).2=0/\(cU v).1.length<=30000/\v.kind≠1/\v.slot<y.k.slot/\e=7)
def JU(fu:Bool)(t:LS)(s:DS)(y:cb)(v:dm)(M K:Nat)(z:Jn):Prop:=
 (z.e≠0/\z.fu=fu/\z.t=t/\z.s=s/\z.y=y/\Ox fu y v z.e)∨
 (fu=false/\(cU v).2=0/\(cU v).1.length<=30000/\(v.kind=1∨¬v.slot<y.k.slot)/\
   ((z.e≠0/\kS eA s t (fY v) z.s z.t z.e/\z.fu=decide (z.e=4)/\z.y=y)∨
    (∃s1:DS,kS eA s t (fY v) s1 z.t 0/\s1.Ok (M+1) K/\rM s1 z.s/\z.fu=false/\
      ((z.s.down=true/\z.e=14/\z.y=y)∨(z.s.down=false/\z.e=(eX y.abs v).2/\z.y.Ok/\z.y.abs=(eX y.abs v).1)))))
theorem kS.Ao{pre:ByteArray}{s':DS}{t':LS}{l:List UInt8}{e:Int}(h:kS pre s t l s' t' e)(hok:s.Ok M K)(hb:(cv t.nx l).length<=2000000)(hK:2000000<=K):s'.Ok (M+1) K:=by
 rcases h with⟨-,hb2⟩|⟨-,ha,-⟩
 · exact hb2.1.Ao (.inr rfl) hok (by rw[show bL t.nx [l]=cv t.nx l from by simp only[bL,Xn]];exact hb) hK
 · exact ha.Ao (.inl ⟨rfl,rfl⟩) hok hb hK
attribute [local irreducible] cv bL fW bY fq fH fY
theorem tz{e:Int}:CT prog w0 (qi q sb p lp bp fu::H) 77 [.pointer (some ⟨q,0,none⟩),.int .i64 e] (α:=Unit) (fun _=> .int .i64 e) (fun _=>qi q sb p lp bp (decide (e=4)||fu)::H):=by
 refine al func77 rfl ntmps77 rfl (gG ?_);refine yC ?_ ?_<;>intro h6 p6<;>refine gG ?_
 ·refine abN ?_;have e1:(decide (e=4)||fu)=true:=by rw[decide_eq_true p6];rfl
  exact ae0
 have e1:(decide (e=4)||fu)=fu:=by rw[decide_eq_false p6];rfl
 exact ae0
theorem C0(hok:s.Ok M K)(hM:M<=1000000)(hK:K<=1000000000):CT prog w0 (qi q sb p lp bp fu::bm lp p eA t::bP t::DS.H p s H) 80 [.pointer (some ⟨q,0,none⟩)] (α:=DS) (fun y=> .int .i64 (if y.down=true then 14 else 0)) (fun y=>pu (rM s y)::qi q sb p lp bp fu::bm lp p eA t::bP t::DS.H p y H):=by
 refine al func80 rfl ntmps80 rfl (gG ?_);refine cu (bm lp p eA t::bP t::DS.H p s (qi q sb p lp bp fu::H)) ?_;refine ze rfl (zc (Lv (lp:=lp) (p:=p) (pre:=eA) (t:=t) (s:=s) hok hM hK) rfl (fun x7=>?_));refine aV (fun h7=>?_);refine gG ?_;refine cu (DS.H p x7 (bm lp p eA t::bP t::qi q sb p lp bp fu::H)) ?_;refine ze rfl (zc (FL (p:=p) (s:=x7)) rfl (fun x12=>gG ?_));refine yC ?_ ?_<;>intro h12 p12<;>refine gG ?_
 ·exact zX x7 [_] results80 ⟨rfl,trivial⟩ (by rw[if_pos h12];rfl) (fun w hw=>(SB w hw:St w0 (qi q sb p lp bp fu::bm lp p eA t::bP t::DS.H p x7 H) w).aC h7)
 exact zX x7 [_] results80 ⟨rfl,trivial⟩ (by rw[h12];rfl) (fun w hw=>(SB w hw:St w0 (qi q sb p lp bp fu::bm lp p eA t::bP t::DS.H p x7 H) w).aC h7)
theorem oj{v:af}[rbv:dT w0 H (.slice v.batch.a v.batch.l.length v.batch.c) v.batch.l][Cd:gy w0 H (.slice v.cert.a v.cert.ls.length v.cert.c) 1 (v.cert.ls.map BS.val)][rev:ju w0 H v.cert.ls](hs:ff v.abs)(hl:(cU v.abs).1.length<=30000):CT prog w0 (H) 86 [.agg v.cells] (α:=AC) (fun y=> .slice y.a (fY v.abs).length y.c) (fun y=>row (.slice y.a (fY v.abs).length y.c) 5 1 (aE (fY v.abs))::H):=by
 refine al func86 rfl ntmps86 rfl (gG ?_);refine ze rfl (aZ rfl (fun b1=>gG ?_));refine ze rfl (zc (Ju hs) rfl (fun x7=>gG ?_));refine ze rfl (dH (v:= .int .u8 2) rfl (fun a10 c10=>?_));rw[show(Value.slice a10 1 c10)= .slice a10 ([2]:List UInt8).length c10 from rfl,show([.int .u8 2]:List Value)=aE [2]from rfl];refine gG ?_;refine ze rfl (bR (sv:= .slice _ _ _) (xv:= .slice _ _ _) (l:=([2]:List UInt8)) (l':=(cU v.abs).1) rfl rfl so rfl (fun a12 c12=>?_));rw[IA];refine gG ?_;exact zX ⟨a12,c12⟩ [_] results86 ⟨rfl,trivial⟩ rfl SB
theorem LU{y:cb}(hok:s.Ok M K)(hM:M<=900000)(hK:K<=1000000000)(rT:2000000<=K)(hsl:t.av.length<=1000)(hlast:bY t.av<99)(hsz:t.gi<=10000000)(hnx:t.nx<=1000000)(hy:y.Ok){v:af}[rbv:dT w0 H (.slice v.batch.a v.batch.l.length v.batch.c) v.batch.l][Cd:gy w0 H (.slice v.cert.a v.cert.ls.length v.cert.c) 1 (v.cert.ls.map BS.val)][rev:ju w0 H v.cert.ls](hs:ff v.abs):CT prog w0 (SH q sb p lp bp fu t s y H) 31 [.pointer (some ⟨q,0,none⟩),.agg v.cells] (α:=Jn) (fun z=> .int .i64 z.e) (fun z=>pu (JU fu t s y v.abs M K z)::SH q sb p lp bp z.fu z.t z.s z.y H):=by
 refine al func31 rfl ntmps31 rfl (gG ?_);refine ze rfl (aZ rfl (fun b3=>gG ?_));refine Zn ?_;refine Zb ?_;refine yC ?_ ?_<;>intro h12 p12
 ·refine gG ?_;have hfu:fu=true:=h12;subst hfu;exact zX (⟨true,t,s,y,4⟩:Jn) [_] results31 ⟨rfl,trivial⟩ rfl (aP (.inl ⟨by show(4:Int)≠0;decide,rfl,rfl,rfl,rfl,.inl ⟨rfl,rfl⟩⟩) SB)
 have hfu:fu=false:=h12;subst hfu;refine gG ?_;refine ze rfl (zc (Ju hs) rfl (fun x19=>gG ?_));refine yS 24 ?_ ?_<;>intro h24 p24
 ·refine gG ?_;refine Zc ?_;exact acP
 have hput:(cU v.abs).2=0:=om;refine gG ?_;refine yC ?_ ?_<;>intro h28 p28
 ·refine gG ?_;exact acP
 refine zk (zx (zS (kT [29,30,31,32,33,34,35,36,37,38,39,40,41] [41] (fun us H'=>∃b:Bool,us=[.bool b]/\(aF b3 (.cells v.cells 57 (0,0))::SH q sb p lp bp false t s y H)=H'/\(b=false->v.abs.kind=1∨¬v.abs.slot<y.k.slot)/\(b=true->v.abs.kind≠1/\v.abs.slot<y.k.slot)) ?_ ?_)))
 ·refine dw (aF b3 (.cells v.cells 57 (0,0))::SH q sb p lp bp false t s y H) [(0,true),(1,true),(2,true),(3,true),(4,true),(5,true),(6,true),(7,true),(8,true),(9,true),(10,false),(11,true),(12,true)] (fun hns0=>?_);refine gA ?_;refine yD 32 ?_ ?_<;>intro h32 p32
  ·refine ahg ?_;refine adB ?_;refine bB hns0 rfl rfl rfl h32 (zm (.pointer _) rfl) rfl ?_;refine bB hns0 rfl rfl rfl h32 (aN rfl) rfl ?_;refine ahg ?_;refine gA ?_;refine km bp ?_;refine lF rfl rfl rfl h32 rfl (zc (Nk (p:=bp) (k:=y.k)) rfl (fun x39=>⟨SB,?_⟩));refine gA ?_;refine dU _ zA adj (SB)
  refine br hns0 rfl rfl rfl h32 rfl (br hns0 rfl rfl rfl h32 rfl (br hns0 rfl rfl rfl h32 rfl (br hns0 rfl rfl rfl h32 rfl (br hns0 rfl rfl rfl h32 rfl (br hns0 rfl rfl rfl h32 rfl ?_)))));refine km bp ?_;refine gA ?_;refine dU _ zA adj (SB)
 rintro τc1 _ _ ⟨b41,rfl,rfl,hb41,hb42⟩ _;refine yC ?_ ?_<;>intro h41 p41
 ·have hold:=hb42 h41;refine gG ?_;exact zX (⟨false,t,s,y,7⟩:Jn) [_] results31 ⟨rfl,trivial⟩ rfl (aP (.inl ⟨by show(7:Int)≠0;decide,rfl,rfl,rfl,rfl,.inr (.inr ⟨hput,om,hold.1,hold.2,rfl⟩)⟩) SB)
 have hnew:=hb41 h41;refine zk (zx (zS (kT [7,42,43,44,45,46,47,48,49,50] [7] (fun us H'=>∃(s4:DS)(t4:LS)(e4:Int),us=[.int .i64 e4]/\(aF b3 (.cells v.cells 57 (0,0))::SH q sb p lp bp (decide (e4=4)||false) t4 s4 y H)=H'/\kS eA s t (fY v.abs) s4 t4 e4) ?_ ?_)))
 ·refine jC (aF b3 (.cells v.cells 57 (0,0))::H) kr SB (bz (i:=0) kr rfl kr kr (zm (.pointer _) rfl) rfl (bz (i:=1) kr rfl kr kr (zm (.pointer _) rfl) rfl (bz (i:=2) kr rfl kr kr (aN rfl) rfl (bz (i:=3) kr rfl kr kr (zf 2 rfl rfl) rfl (bz (i:=5) kr rfl kr kr (zn rfl rfl) rfl ?_)))));refine nn (i:=4) (j:=6) kr ?_ ?_
  ·refine aaG ?_;refine adJ ?_;refine cq rfl rfl (zc (oj hs om) rfl (fun x48=>⟨SB,?_⟩));refine ab2 ?_;refine acF ?_;refine cq rfl rfl (zc (pM (lp:=lp) (p:=p) (pre:=eA) (t:=t) (s:=s) hok om hK om dc hsl hlast hsz hnx (b:=⟨x48.a,x48.c,fY v.abs⟩) aio) rfl (fun x49=>⟨SB,?_⟩));refine gH (fun h49=>?_);refine acx ?_;refine adb ?_;refine cq rfl rfl (zc (tz (q:=q) (sb:=sb) (p:=p) (lp:=lp) (bp:=bp) (fu:=false) (e:=x49.2.2)) rfl (fun x50=>⟨SB,?_⟩));refine acY ?_;refine eH kr ?_;refine dU _ zA (⟨x49.1,x49.2.1,x49.2.2,rfl,rfl,h49⟩) (SB)
  refine cq rfl rfl (zc (oj hs om) rfl (fun x48=>⟨SB,?_⟩));refine acZ ?_;refine aaG ?_;refine ab2 ?_;refine acF ?_;refine cq rfl rfl (zc (pM (lp:=lp) (p:=p) (pre:=eA) (t:=t) (s:=s) hok om hK om dc hsl hlast hsz hnx (b:=⟨x48.a,x48.c,fY v.abs⟩) aio) rfl (fun x49=>⟨SB,?_⟩));refine gH (fun h49=>?_);refine acx ?_;refine adb ?_;refine cq rfl rfl (zc (tz (q:=q) (sb:=sb) (p:=p) (lp:=lp) (bp:=bp) (fu:=false) (e:=x49.2.2)) rfl (fun x50=>⟨SB,?_⟩));refine acY ?_;refine eH kr ?_;refine dU _ zA (⟨x49.1,x49.2.1,x49.2.2,rfl,rfl,h49⟩) (SB)
 rintro τc2 _ _ ⟨s4,t4,e4,rfl,rfl,h49⟩ _;have hok4:=h49.Ao hok (by have:=(gx t.nx om (fY v.abs) (by rw[jl];omega)).1;rw[jl]at this;omega) rT;refine gG ?_;refine yC ?_ ?_<;>intro h52 p52
 ·refine gG ?_;exact zX (⟨(decide (e4=4)||false),t4,s4,y,e4⟩:Jn) [_] results31 ⟨rfl,trivial⟩ rfl (aP (.inr ⟨rfl,hput,om,hnew,.inl ⟨p52,h49,Bool.or_false _,rfl⟩⟩) SB)
 have he40:e4=0:=om;rw[he40]at h49;refine gG ?_;refine cu (qi q sb p lp bp (decide (e4=4)||false)::bm lp p eA t4::bP t4::DS.H p s4 (aF b3 (.cells v.cells 57 (0,0))::cb.H y bp H)) ?_;refine ze rfl (zc (C0 (q:=q) (sb:=sb) (p:=p) (lp:=lp) (bp:=bp) (fu:=(decide (e4=4)||false)) (t:=t4) (s:=s4) hok4 om hK) rfl (fun x55=>?_));refine aV (fun h55=>?_);refine gG ?_;refine yC ?_ ?_<;>intro h57 p57
 ·have hdn:x55.down=true:=by
   cases hd:x55.down with
   |true=>rfl
   |false=>exact absurd (by rw[hd];rfl) p57
  refine gG ?_;exact zX (⟨(decide (e4=4)||false),t4,x55,y,14⟩:Jn) [_] results31 ⟨rfl,trivial⟩ (by rw[if_pos hdn];rfl) (aP (.inr ⟨rfl,hput,om,hnew,.inr ⟨s4,h49,hok4,h55,by show(decide (e4=4)||false)=false;rw[he40];rfl,.inl ⟨hdn,rfl,rfl⟩⟩⟩) SB)
 have hdn:x55.down=false:=by
  cases hd:x55.down with
  |false=>rfl
  |true=>rw[hd]at p57;exact absurd p57 dc
 refine gG ?_;refine dw (aF b3 (.cells v.cells 57 (0,0))::qi q sb p lp bp (decide (e4=4)||false)::H) [(0,true),(1,true),(2,true),(3,true),(4,true),(5,false),(6,true)] (fun hns3=>?_);refine gA ?_;refine gX (fun w hw=>(SB w hw:St w0 (cb.H y bp (aF b3 (.cells v.cells 57 (0,0))::qi q sb p lp bp (decide (e4=4)||false)::bm lp p eA t4::bP t4::DS.H p x55 H)) w)) ?_;refine cX rfl rfl (zc (Kq (p:=bp) (y:=y) (v:=v) hy hs) rfl (fun x64=>⟨SB,?_⟩));refine im (fun hz=>?_);refine gA ?_;exact zX (⟨(decide (e4=4)||false),t4,x55,x64,(eX y.abs v.abs).2⟩:Jn) [_] results31 ⟨rfl,trivial⟩ rfl (aP (.inr ⟨rfl,hput,om,hnew,.inr ⟨s4,h49,hok4,h55,by show(decide (e4=4)||false)=false;rw[he40];rfl,.inr ⟨hdn,rfl,hz.1,hz.2⟩⟩⟩) SB)
end
section
theorem some_get{o:Option af}(h:o.isSome=true):o=some (o.getD af.zero):=by cases o with|none=>cases h|some u=>rfl
theorem rX{o:Option af}(h:o.isSome=false):o=none:=by cases o with|none=>rfl|some u=>cases h
theorem NV{w0:World}{H:List SA}{a:Option Addr}{vs:List af}{c:Nat}[hr:gy w0 H (.slice a vs.length c) 38 (vs.flatMap af.list)](hn:vs.length<=1000000):CT prog w0 (H) 46 [.slice a vs.length c] (α:=AC) (fun y=> .slice y.a (fg vs).length y.c) (fun y=>row (.slice y.a (fg vs).length y.c) 57 38 ((fg vs).flatMap af.list)::H):=by
 refine al func46 rfl ntmps46 rfl (gG ?_);refine ze rfl (zc (Nq hn) rfl (fun x14=>gG ?_));refine yC ?_ ?_<;>intro h18 p18
 ·have hp:0<=(fX vs).1:=om;have hrp:kV vs=[(hU (fX vs))]:=if_pos hp;refine gG ?_;refine zq (aA [(0,(.int .i64 _)),(1,(.int .i64 _)),(2,(.int .i64 _))] rfl kr) rfl ?_;refine ze rfl (cr (m:=[(hU (fX vs))].length) [.agg (hU (fX vs)).cells] ([(hU (fX vs))].flatMap af.list) rfl rfl rfl rfl ab5 rfl rfl (fun a23 c23=>?_));refine ze rfl (cp af.list (sv:= .slice _ _ _) (xv:= .slice _ _ _) (xs:=[]) (ys:=[(hU (fX vs))]) af.ae af.aS rfl rfl agP rfl rfl (fun a24 c24=>?_));simp only[Xh];refine gG ?_;refine bH [3,6,7,8,9,25,26,27,28,29,30,31,32,33,34,35,36,37,38,39,40,41,42,43,44] [6,3] (fun us H'=>∃(v:Nat)(ao:Option Addr)(co:Nat)(zs:List af),us=[.int .i64 (v:Int),.slice ao zs.length co]/\row (.slice ao (zs).length co) 57 38 ((zs).flatMap af.list)::H=H'/\v<=61/\(zs=kV vs++(jr v).filterMap (cj vs))) (fun us=>match us with| .int _ i::_=>61-i.toNat|_=>0) ⟨0,a24,c24,[(hU (fX vs))],rfl,rfl,om,by rw[hrp];rfl⟩ SB ?_;rintro τ0 _ _ ⟨v,ao,co,zs,rfl,rfl,hv0,hzs⟩ _;refine gG ?_;refine yC ?_ ?_<;>intro h26 p26
  ·have hv:v<61:=om;refine gG ?_;refine bH [3,7,8,9,29,30,31,32,33,34,35,36,37,38,39,40,41,42,43,44] [7,3] (fun us H'=>∃(r:Nat)(ai:Option Addr)(ci:Nat)(zi:List af),us=[.int .i64 (r:Int),.slice ai zi.length ci]/\row (.slice ai (zi).length ci) 57 38 ((zi).flatMap af.list)::H=H'/\r<=41/\(zi=kV vs++((jr v).filterMap (cj vs)++(ml v r).filterMap (cj vs)))) (fun us=>match us with| .int _ i::_=>41-i.toNat|_=>0) ⟨0,ao,co,zs,rfl,rfl,om,by rw[hzs];simp[ml]⟩ SB ?_;rintro τ1 _ _ ⟨r,ai,ci,zi,rfl,rfl,hr0,hzi⟩ _;refine gG ?_;refine yC ?_ ?_<;>intro h30 p30
   ·have hrr:r<41:=om;have hzl:zi.length<=3000:=by
     have h1:=X1 (cj vs) (jr v);rw[lW]at h1;have h2:=X1 (cj vs) (ml v r);rw[uU]at h2;have h3:(kV vs).length<=1:=by rw[hrp];simp
     rw[hzi,WX,WX];omega
    refine gG ?_;refine ze rfl (zc (BP (view:=(v:Int)) (dZ:=(r:Int)) hn) rfl (fun x37=>gG ?_));refine ze rfl (an (fun b8=>?_));refine acb ?_;refine yC ?_ ?_<;>intro h40 p40
    ·have hw:=some_get h40;have hz2:zi++[((cj vs ⟨(v:Int),(r:Int)⟩).getD af.zero)]=kV vs++((jr v).filterMap (cj vs)++(ml v (r+1)).filterMap (cj vs)):=ahj;refine gG ?_;refine ze rfl (cr (m:=[((cj vs ⟨(v:Int),(r:Int)⟩).getD af.zero)].length) [.agg ((cj vs ⟨(v:Int),(r:Int)⟩).getD af.zero).cells] ([((cj vs ⟨(v:Int),(r:Int)⟩).getD af.zero)].flatMap af.list) rfl rfl rfl rfl ab5 rfl rfl (fun a43 c43=>?_));refine ze rfl (cp af.list (sv:= .slice _ _ _) (xv:= .slice _ _ _) (xs:=zi) (ys:=[((cj vs ⟨(v:Int),(r:Int)⟩).getD af.zero)]) af.ae af.aS rfl rfl agP rfl rfl (fun a44 c44=>gA ?_));refine bW _ zA (⟨r+1,_,_,_,rfl,rfl,om,hz2⟩) adA (SB)
    have hw:=rX h40;have hz2:zi=kV vs++((jr v).filterMap (cj vs)++(ml v (r+1)).filterMap (cj vs)):=ag4;refine gA ?_;refine bW _ zA (⟨r+1,_,_,_,rfl,rfl,om,hz2⟩) adA (SB)
   have hr41:r=41:=om;have hzo:zi=kV vs++(jr (v+1)).filterMap (cj vs):=by rw[hzi,hr41,og,XM]
   refine gG ?_;refine ZA ?_;refine bW _ zA (⟨v+1,ai,ci,zi,rfl,rfl,om,hzo⟩) ahP (SB)
  have hv61:v=61:=om;subst hv61;have hzl:zs.length<=3000:=ae2;refine gG ?_;refine Za ?_;refine ze rfl (zc (ui hn) rfl (fun x47=>gG ?_));refine ze rfl (an (fun b10=>?_));refine acb ?_;refine yC ?_ ?_<;>intro h50 p50
  ·have hall:zs++[((ig vs).getD af.zero)]=fg vs:=by rw[fg,some_get h50,hzs];simp[j8]
   refine gG ?_;refine ze rfl (cr (m:=[((ig vs).getD af.zero)].length) [.agg ((ig vs).getD af.zero).cells] ([((ig vs).getD af.zero)].flatMap af.list) rfl rfl rfl rfl ab5 rfl rfl (fun a53 c53=>?_));refine ze rfl (cp af.list (sv:= .slice _ _ _) (xv:= .slice _ _ _) (xs:=zs) (ys:=[((ig vs).getD af.zero)]) af.ae af.aS rfl rfl agP rfl rfl (fun a54 c54=>gG ?_));rw[←hall];exact agf
  have hall:zs=fg vs:=by rw[fg,rX h50,hzs];simp[j8]
  refine gG ?_;rw[←hall];exact agz
 have hrp:kV vs=[]:=if_neg om;refine gG ?_;refine bH [3,6,7,8,9,25,26,27,28,29,30,31,32,33,34,35,36,37,38,39,40,41,42,43,44] [6,3] (fun us H'=>∃(v:Nat)(ao:Option Addr)(co:Nat)(zs:List af),us=[.int .i64 (v:Int),.slice ao zs.length co]/\row (.slice ao (zs).length co) 57 38 ((zs).flatMap af.list)::H=H'/\v<=61/\(zs=kV vs++(jr v).filterMap (cj vs))) (fun us=>match us with| .int _ i::_=>61-i.toNat|_=>0) ⟨0,none,0,[],rfl,rfl,om,by rw[hrp];rfl⟩ (fun w hw=>St.cT 57 38 (SB w hw)) ?_;rintro τ0 _ _ ⟨v,ao,co,zs,rfl,rfl,hv0,hzs⟩ _;refine gG ?_;refine yC ?_ ?_<;>intro h26 p26
 ·have hv:v<61:=om;refine gG ?_;refine bH [3,7,8,9,29,30,31,32,33,34,35,36,37,38,39,40,41,42,43,44] [7,3] (fun us H'=>∃(r:Nat)(ai:Option Addr)(ci:Nat)(zi:List af),us=[.int .i64 (r:Int),.slice ai zi.length ci]/\row (.slice ai (zi).length ci) 57 38 ((zi).flatMap af.list)::H=H'/\r<=41/\(zi=kV vs++((jr v).filterMap (cj vs)++(ml v r).filterMap (cj vs)))) (fun us=>match us with| .int _ i::_=>41-i.toNat|_=>0) ⟨0,ao,co,zs,rfl,rfl,om,by rw[hzs];simp[ml]⟩ SB ?_;rintro τ1 _ _ ⟨r,ai,ci,zi,rfl,rfl,hr0,hzi⟩ _;refine gG ?_;refine yC ?_ ?_<;>intro h30 p30
  ·have hrr:r<41:=om;have hzl:zi.length<=3000:=by
    have h1:=X1 (cj vs) (jr v);rw[lW]at h1;have h2:=X1 (cj vs) (ml v r);rw[uU]at h2;have h3:(kV vs).length<=1:=by rw[hrp];simp
    rw[hzi,WX,WX];omega
   refine gG ?_;refine ze rfl (zc (BP (view:=(v:Int)) (dZ:=(r:Int)) hn) rfl (fun x37=>gG ?_));refine ze rfl (an (fun b8=>?_));refine acb ?_;refine yC ?_ ?_<;>intro h40 p40
   ·have hw:=some_get h40;have hz2:zi++[((cj vs ⟨(v:Int),(r:Int)⟩).getD af.zero)]=kV vs++((jr v).filterMap (cj vs)++(ml v (r+1)).filterMap (cj vs)):=ahj;refine gG ?_;refine ze rfl (cr (m:=[((cj vs ⟨(v:Int),(r:Int)⟩).getD af.zero)].length) [.agg ((cj vs ⟨(v:Int),(r:Int)⟩).getD af.zero).cells] ([((cj vs ⟨(v:Int),(r:Int)⟩).getD af.zero)].flatMap af.list) rfl rfl rfl rfl ab5 rfl rfl (fun a43 c43=>?_));refine ze rfl (cp af.list (sv:= .slice _ _ _) (xv:= .slice _ _ _) (xs:=zi) (ys:=[((cj vs ⟨(v:Int),(r:Int)⟩).getD af.zero)]) af.ae af.aS rfl rfl agP rfl rfl (fun a44 c44=>gA ?_));refine bW _ zA (⟨r+1,_,_,_,rfl,rfl,om,hz2⟩) adA (SB)
   have hw:=rX h40;have hz2:zi=kV vs++((jr v).filterMap (cj vs)++(ml v (r+1)).filterMap (cj vs)):=ag4;refine gA ?_;refine bW _ zA (⟨r+1,_,_,_,rfl,rfl,om,hz2⟩) adA (SB)
  have hr41:r=41:=om;have hzo:zi=kV vs++(jr (v+1)).filterMap (cj vs):=by rw[hzi,hr41,og,XM]
  refine gG ?_;refine ZA ?_;refine bW _ zA (⟨v+1,ai,ci,zi,rfl,rfl,om,hzo⟩) ahP (SB)
 have hv61:v=61:=om;subst hv61;have hzl:zs.length<=3000:=ae2;refine gG ?_;refine Za ?_;refine ze rfl (zc (ui hn) rfl (fun x47=>gG ?_));refine ze rfl (an (fun b10=>?_));refine acb ?_;refine yC ?_ ?_<;>intro h50 p50
 ·have hall:zs++[((ig vs).getD af.zero)]=fg vs:=by rw[fg,some_get h50,hzs];simp[j8]
  refine gG ?_;refine ze rfl (cr (m:=[((ig vs).getD af.zero)].length) [.agg ((ig vs).getD af.zero).cells] ([((ig vs).getD af.zero)].flatMap af.list) rfl rfl rfl rfl ab5 rfl rfl (fun a53 c53=>?_));refine ze rfl (cp af.list (sv:= .slice _ _ _) (xv:= .slice _ _ _) (xs:=zs) (ys:=[((ig vs).getD af.zero)]) af.ae af.aS rfl rfl agP rfl rfl (fun a54 c54=>gG ?_));rw[←hall];exact agf
 have hall:zs=fg vs:=by rw[fg,rX h50,hzs];simp[j8]
 refine gG ?_;rw[←hall];exact agz
end
end Go.Proofs.YtmbfimckmfnnjaaGreatDoor
