/- Steps of the proof of a law. -/
import Derived.Test.YtmbfimckmfnnjaaGreatDoorQ26
import Derived.Test.YtmbfimckmfnnjaaGreatDoorQ32
set_option maxRecDepth 100000
set_option maxHeartbeats 1000000
set_option linter.unusedSimpArgs false
set_option linter.unusedVariables false
namespace Go.Proofs.YtmbfimckmfnnjaaGreatDoor
open Go.RowKit Go.Sx Go.Proofs.Tryz
section
def l9(pre:ByteArray)(f:kz)(av:List Nat)(g:List UInt8)(k:Nat):kz:=fun key=>
 if key=fW pre (fq av)then some g else if MO pre (av.take k) key=true then none else f key
variable {pre:ByteArray} {av:List Nat} {g:List UInt8} {s:DS} {w0:World} {H:List SA}
theorem DQ{f:kz}{a:ca}(ha:a.kind=2)(hn:a.name=fW pre (fq av))(hb:a.b.l=g):jY f a=l9 pre f av g 0:=by
 funext key
 unfold jY l9;rw[if_neg om,if_pos ha,hn,hb,XD];by_cases q:key=fW pre (fq av)
 · rw[if_pos q,if_pos q]
 · rw[if_neg q,if_neg q,if_neg (A2 (fun n hn=>by cases hn))]
theorem GV{f:kz}{k:Nat}(hk:k<av.length)(h1:∀n∈av,n<fq av/\n<100)(hnw:fq av<100){a:ca}(ha:a.kind=4)(hn:a.name=fW pre av[k]):jY (l9 pre f av g k) a=l9 pre f av g (k+1):=by
 have hm:=h1 _ (W1 hk);have hne:fW pre av[k]≠fW pre (fq av):=fun h=>by have:=mb hm.2 hnw h;omega
 have htk:av.take (k+1)=av.take k++[av[k]]:=Xf hk
 funext key
 have e:jY (l9 pre f av g k) a key=if key=a.name then none else l9 pre f av g k key:=by
   unfold jY;rw[if_neg om,if_neg om,if_neg om,if_pos ha]
 rw[e,hn];unfold l9;by_cases q1:key=fW pre av[k]
 · rw[if_pos q1,if_neg (by rw[q1];exact hne),if_pos (jE.2 ⟨av[k],by rw[htk];exact Xo _ (Xb.2 rfl),q1⟩)]
 · rw[if_neg q1]
   by_cases q2:key=fW pre (fq av)
   · rw[if_pos q2,if_pos q2]
   · rw[if_neg q2,if_neg q2]
     by_cases q3:MO pre (av.take k) key=true
     · obtain⟨n,hn,he⟩:=jE.1 q3
       rw[if_pos q3,if_pos (jE.2 ⟨n,by rw[htk];exact Xx _ hn,he⟩)]
     · rw[if_neg q3,if_neg (A2 (fun n hn he=>by rw[htk]at hn;rcases Xc.1 hn with h|h;exact q3 (jE.2 ⟨n,h,he⟩);rw[Xb.1 h]at he;exact q1 he))]
theorem Ld{f:FM}{k:Nat}(hc:cont s.e2=l9 pre (cont f) av g k)(hk:k<av.length)(h1:∀n∈av,n<fq av/\n<100)(hnw:fq av<100)(hnd:av.Nodup)(hex:∀n∈av,eZ f (fW pre n)=true):eZ s.e2 (fW pre av[k])=true:=by
 have hm:=h1 _ (W1 hk);rw[kE,hc];unfold l9;rw[if_neg (fun h=>by have:=mb hm.2 hnw h;omega),if_neg (fun h=>by
   obtain⟨n,hn,he⟩:=jE.1 h;obtain⟨i,hi,hni⟩:=XU hn;rw[List.getElem_take]at hni;have h2:=mb hm.2 (h1 n (Yd hn)).2 he;rw[←hni]at h2;have h3:=(List.getElem_inj hnd).1 h2;rw[Xj]at hi;omega),←kE]
 exact hex _ (W1 _)
def Px(pre:ByteArray)(s:DS)(t:LS)(ls:List (List UInt8))(M K:Nat)(s':DS)(t':LS)(e:Int):Prop:=
 s'.Ok (M+1+t.av.length) K/\(e=4∨(e=0/\Live s'/\s'.cw=[]/\cont s'.e1=cont s'.e2/\cont s'.e2=l9 pre (cont s.e2) t.av (bL t.nx ls) t.av.length/\t'.av=[fq t.av]/\t'.nx=t.nx+ls.length/\t'.gi=(bL t.nx ls).length))
theorem sL.Ao{s':DS}{t t':LS}{ls:List (List UInt8)}{e:Int}{M K:Nat}(h:sL pre s t ls s' t' e)(hok:s.Ok M K)(hb:(bL t.nx ls).length<=2000000)(hK:2000000<=K):s'.Ok (M+1) K:=h.1.Ao (.inr rfl) hok hb hK
attribute [local irreducible] cv bL fW bY fq fH l9
theorem cY.OB{w:World}{n c sz:Nat}{xs:List Value}(h:cY w (.slice none n c) sz xs):xs=[]:=by
 obtain⟨a',n',c',hv,-,-,-,hx⟩:=h;obtain⟨rfl,-,-⟩:a'=none/\n'=n/\c'=c:=abQ;by_cases h0:0<xs.length
 · obtain⟨b,o,h1,-⟩:=hx h0;cases h1
 · exact Xr om
theorem J0{a:Option Addr}{l:List Nat}{c:Nat}[hr:gy w0 H (.slice a l.length c) 1 (l.map encI)](hl:l.length<=1000000):CT prog w0 (H) 232 [.slice a l.length c] (α:=AC) (fun x=> .slice x.a l.length x.c) (fun x=>row (.slice x.a l.length x.c) 3 1 (l.map encI)::H):=by
 refine al func232 rfl ntmps232 rfl (gG ?_);refine zq (nN rfl rfl underlying145) rfl ?_;refine gG ?_;refine yC ?_ ?_<;>intro h4 p4<;>refine gG ?_
 ·subst p4;refine Kf (fun w hw=>cY.OB (hr.rd w hw)) (fun hnil=>?_);have hl0:l=[]:=List.map_eq_nil_iff.1 hnil;subst hl0;exact zX ⟨none,0⟩ [.slice none 0 0] results232 ⟨rfl,trivial⟩ rfl (fun w hw=>hw.cT 3 1)
 refine ze rfl (tb (fun a5 c5=>gG ?_));refine ze rfl (js (sv:= .slice _ _ _) (xv:= .slice _ _ _) (xs:=[]) (news:=l.map encI) rfl rfl (fun u hu=>by obtain⟨z,-,rfl⟩:=Xd.1 hu;rfl) so rfl (fun a7 c7=>?_));simp only[Xh,WZ];refine gG ?_;exact zX ⟨a7,c7⟩ [_] results232 ⟨rfl,trivial⟩ rfl SB
theorem JA{w:World}{lp p z nx:Nat}{bg:Bool}{ga:Option Addr}{gc n:Nat}{l r:List Nat}{X:SA}(hl:l=n::r)
   (h:St w0 (X::aF lp (.cells (cH.mk (some ⟨p,0,none⟩) pre ⟨lk ga gc 1 1,l.length-1,gc-1⟩ (z:Int) (nx:Int) bg).cells 147 (0,0))::lI (.slice ga l.length gc) 3 (l.map encI)::H) w):St w0 (X::bm lp p pre (⟨lk ga gc 1 1,gc-1,r,z,nx,bg⟩:LS)::bP (⟨lk ga gc 1 1,gc-1,r,z,nx,bg⟩:LS)::H) w:=by
 subst hl;have h1:St w0 (lI (.slice ga (encI n::r.map encI).length gc) 3 (encI n::r.map encI)::X::bm lp p pre (⟨lk ga gc 1 1,gc-1,r,z,nx,bg⟩:LS)::H) w:=by
   have h2:St w0 (X::bm lp p pre (⟨lk ga gc 1 1,gc-1,r,z,nx,bg⟩:LS)::lI (.slice ga (encI n::r.map encI).length gc) 3 (encI n::r.map encI)::H) w:=by
     have e:(encI n::r.map encI).length=(n::r).length:=sm;rw[e];exact h
   exact cJ.st inferInstance w h2
 have h3:=St.OT h1;rw[WZ]at h3;exact cJ.st inferInstance w h3
theorem Ml{lp p:Nat}{t:LS}{M K:Nat}(hok:s.Ok M K)(hM:M<=900000)(hK:K<=1000000000)(rT:2000000<=K)(hlv:Live s)(hp:pre.size<=8)(hsl:t.av.length<=1000)(hlast:bY t.av<98)(hm1:∀n∈t.av,n<fq t.av/\n<100)(hnd:t.av.Nodup)(hex:∀n∈t.av,eZ s.e2 (fW pre n)=true){ra:Option Addr}{rc0:Nat}{rs:List BS}[rk:gy w0 H (.slice ra rs.length rc0) 1 (rs.map BS.val)][rke:ju w0 H rs](hr8:rs.length<=1000)(hrl:∀x∈rs,x.l.length<=1000000)(htot:(bL t.nx (rs.map BS.l)).length<=1000000)(hnx:t.nx<=1000000):CT prog w0 (bm lp p pre t::bP t::DS.H p s H) 159 [.pointer (some ⟨lp,0,none⟩),.slice ra rs.length rc0] (α:=DS×LS×Int) (fun y=> .int .i64 y.2.2) (fun y=>pu (Px pre s t (rs.map BS.l) M K y.1 y.2.1 y.2.2)::bm lp p pre y.2.1::bP y.2.1::DS.H p y.1 H):=by
 have hnw:fq t.av<100:=by have:=qI t.av;omega
 refine al func159 rfl ntmps159 rfl (gG ?_);refine ZY ?_;refine Zb ?_;refine ze rfl (zc (J0 (l:=t.av) om) rfl (fun x16=>gG ?_));refine cu (bm lp p pre t::bP t::DS.H p s (row (.slice x16.a t.av.length x16.c) 3 1 (t.av.map encI)::H)) ?_;refine ze rfl (zc (Al (s:=s) (t:=t) hok om om om om hsl om (rs:=rs) hr8 hrl htot hnx) rfl (fun x19=>?_));refine aV (fun h19=>?_);have hok1:=h19.Ao hok om rT;have hlf:=h19.1.jm hlv (nB hp om) hok.gR;refine gG ?_;refine yC ?_ ?_<;>intro h21 p21
 ·obtain⟨he0,-⟩|⟨he4,-⟩:=hlf.symm
  · exact absurd he0 p21
  refine gG ?_;exact zX (x19.1,x19.2.1,x19.2.2) [_] results159 ⟨rfl,trivial⟩ rfl (aP (⟨hok1.mono om (W8 _),.inl he4⟩) SB)
 have he19:x19.2.2=0:=om;obtain⟨he4,-⟩|⟨-,hlv1,-,-,cl,hcl,-,hct⟩:=hlf
 · exact absurd he4 om
 obtain⟨q1,q2,q3,q4⟩:=h19.2.2 he19;refine gG ?_;refine cu (DS.H p x19.1 (bm lp p pre x19.2.1::bP x19.2.1::row (.slice x16.a t.av.length x16.c) 3 1 (t.av.map encI)::H)) ?_;refine ze rfl (zc (pf (s:=x19.1) hok1 om om) rfl (fun x27=>?_));refine aV (fun h27=>?_);have hok2:=h27.ok hok1;obtain⟨hlv2,-,hp2,h2a,h2b⟩:=h27.jm hlv1;refine gG ?_;refine bH [4,8,9,30,31,32,33,34,35,36,37,38,39,40,41,42,43,44,45,46,47,48,49,50,51,52,53,54,55,56,57,58] [30] (fun us H'=>∃(k:Nat)(ga:Option Addr)(gc:Nat)(sk:DS),us=[.int .i64 (k:Int)]/\row (.slice x16.a t.av.length x16.c) 3 1 (t.av.map encI)::bm lp p pre (⟨ga,gc,x19.2.1.av.drop k,x19.2.1.gi,x19.2.1.nx,x19.2.1.bg⟩:LS)::bP (⟨ga,gc,x19.2.1.av.drop k,x19.2.1.gi,x19.2.1.nx,x19.2.1.bg⟩:LS)::DS.H p sk H=H'/\k<=t.av.length/\(sk.Ok (M+1+k) K)/\(Live sk)/\(sk.cw=[])/\(cont sk.e1=cont sk.e2)/\(cont sk.e2=l9 pre (cont s.e2) t.av (bL t.nx (rs.map BS.l)) k)) (fun us=>match us with| .int _ i::_=>t.av.length-i.toNat|_=>0) ⟨0,x19.2.1.ga,x19.2.1.gc,x27,rfl,rfl,om,hok2.mono om (W8 _),hlv2,hp2,by rw[h2a,h2b],by rw[h2b,hct];exact DQ rfl rfl hcl⟩ (fun w hw=>by
  have h0:St w0 (row (.slice x16.a t.av.length x16.c) 3 1 (t.av.map encI)::bm lp p pre x19.2.1::bP x19.2.1::DS.H p x27 H) w:=SB w hw;exact h0) ?_
 rintro τ0 _ _ ⟨k,ga,gc,sk,rfl,rfl,hk0,hokk,hlvk,hpk,hek,hck⟩ _;refine gG ?_;refine yC ?_ ?_<;>intro h31 p31
 ·have hk:k<t.av.length:=om;have hdk:x19.2.1.av.drop k=t.av[k]::x19.2.1.av.drop (k+1):=agk;refine gG ?_;refine zq (bj rfl rfl om acG) rfl (zq (bC (.int .i64 ((t.av[k]:Nat):Int)) rfl (rS t.av k hk)) rfl ?_);refine gG ?_;refine dw (bm lp p pre (⟨ga,gc,x19.2.1.av.drop k,x19.2.1.gi,x19.2.1.nx,x19.2.1.bg⟩:LS)::bP (⟨ga,gc,x19.2.1.av.drop k,x19.2.1.gi,x19.2.1.nx,x19.2.1.bg⟩:LS)::row (.slice x16.a t.av.length x16.c) 3 1 (t.av.map encI)::H) [(0,true),(1,true),(2,true),(3,true),(4,true),(5,true),(6,false),(7,false),(8,true)] (fun hns0=>?_);refine gA ?_;refine lP (bm lp p pre (⟨ga,gc,x19.2.1.av.drop k,x19.2.1.gi,x19.2.1.nx,x19.2.1.bg⟩:LS)) ?_;refine cX rfl rfl (zc (qJ (t:=(⟨ga,gc,x19.2.1.av.drop k,x19.2.1.gi,x19.2.1.nx,x19.2.1.bg⟩:LS)) om (i:=t.av[k]) (hm1 _ (W1 hk)).2) rfl (fun x40=>⟨SB,?_⟩));refine gX (fun w hw=>(SB w hw:St w0 (DS.H p sk (bm lp p pre (⟨ga,gc,x19.2.1.av.drop k,x19.2.1.gi,x19.2.1.nx,x19.2.1.bg⟩:LS)::bP (⟨ga,gc,x19.2.1.av.drop k,x19.2.1.gi,x19.2.1.nx,x19.2.1.bg⟩:LS)::row (.slice x16.a t.av.length x16.c) 3 1 (t.av.map encI)::H)) w)) ?_;refine cX rfl rfl (zc (CR (s:=sk) hokk om om (nm:=fW pre t.av[k])) rfl (fun x41=>⟨SB,?_⟩));refine im (fun h41=>?_);have hok41:=h41.Ao hokk rfl (show(4:Int)≠1 by decide) (show(4:Int)≠2 by decide);obtain⟨e41,hlv41,-,hc41⟩:=h41.jm hlvk (nB hp (hm1 _ (W1 hk)).2) (Ld hck hk hm1 hnw hnd hex) hokk.gR;rw[e41];refine gA ?_;refine Zb ?_
  refine cu (DS.H p x41.1 (bm lp p pre (⟨ga,gc,x19.2.1.av.drop k,x19.2.1.gi,x19.2.1.nx,x19.2.1.bg⟩:LS)::bP (⟨ga,gc,x19.2.1.av.drop k,x19.2.1.gi,x19.2.1.nx,x19.2.1.bg⟩:LS)::row (.slice x16.a t.av.length x16.c) 3 1 (t.av.map encI)::H)) ?_;refine ze rfl (zc (pf (s:=x41.1) hok41 om om) rfl (fun x49=>?_));refine aV (fun h49=>?_);have hok49:=(h49.ok hok41).mono (N':=M+1+(k+1)) (M':=K) om (W8 _);obtain⟨hlv49,-,hp49,h49a,h49b⟩:=h49.jm hlv41;have hc49:cont x49.e2=l9 pre (cont s.e2) t.av (bL t.nx (rs.map BS.l)) (k+1):=by rw[h49b,hc41,hck];exact GV hk hm1 hnw rfl rfl
  refine gG ?_;have hdk:x19.2.1.av.drop k=t.av[k]::x19.2.1.av.drop (k+1):=agk;refine zq (wc 1 rfl rfl (by show 1<=(x19.2.1.av.drop k).length;rw[hdk];simp)) rfl ?_;refine gG ?_;refine adx ?_;exact xl ⟨k+1,lk ga gc 1 1,gc-1,x49,rfl,rfl,om,hok49,hlv49,hp49,by rw[h49a,h49b],hc49⟩ (hH:=fun w hw=>JA hdk (SB w hw))
 have hkn:k=t.av.length:=om;rw[hkn]at hck hokk;refine gG ?_;refine Za ?_;have hdz:x19.2.1.av.drop k=[fq t.av]:=by rw[q1,hkn,YQ]
 exact zX (sk,(⟨ga,gc,x19.2.1.av.drop k,x19.2.1.gi,x19.2.1.nx,x19.2.1.bg⟩:LS),0) [_] results159 ⟨rfl,trivial⟩ rfl (aP (⟨hokk,.inr ⟨rfl,hlvk,hpk,hek,hck,hdz,by show x19.2.1.nx=_;rw[q3],by show x19.2.1.gi=_;rw[q2]⟩⟩) SB)
end
section
open Go.Maps Go.Sort Go.Shelf
variable {w0:World} {H:List SA} {v:aj} {n m:Int} {p:Nat}
instance UJ{u:Int}:bD v.cells 1 (.int .i64 u) {v with first:=u}.cells:=by have:=bD.fr v.p0 v.p1 (v.view.list++(v.fM.list++(v.p4++v.p5))) (cs:=v.cells) (o:=1) (n:=1) (v:= .int .i64 u) rfl rfl rfl rfl;simpa[aj.cells,aj.list,Value.cells]using this
instance Ue{u:aH}:bD v.cells 2 (.agg u.cells) {v with view:=u}.cells:=by have:=bD.fr (v.p0++v.p1) v.view.list (v.fM.list++(v.p4++v.p5)) (cs:=v.cells) (o:=2) (n:=2) (v:= .agg u.cells) (by simp[aj.cells,aj.list]) rfl v.view.ae (by simp[Value.cells,aH.size]);simpa[aj.cells,aj.list,Value.cells,aH.cells]using this
instance UO{u:aH}:bD v.cells 4 (.agg u.cells) {v with fM:=u}.cells:=by have:=bD.fr (v.p0++v.p1++v.view.list) v.fM.list (v.p4++v.p5) (cs:=v.cells) (o:=4) (n:=2) (v:= .agg u.cells) (by simp[aj.cells,aj.list]) afQ v.fM.ae (by simp[Value.cells,aH.size]);simpa[aj.cells,aj.list,Value.cells,aH.cells]using this
def rk(k i:Nat):ar:=⟨if i<k then(i:Int)else 0,0,0,cI.zero⟩
def mr(k:Nat):Vector ar 6:=⟨#[rk k 0,rk k 1,rk k 2,rk k 3,rk k 4,rk k 5],rfl⟩
@[reducible] def gJ(n m:Int)(k:Nat):aj:=⟨0,1,⟨n,m⟩,⟨n,m⟩,Vector.replicate 16 ax.zero,mr k⟩
theorem Ez:Vector.replicate 6 ar.zero=mr 0:=kr
theorem tS:gJ n m 0=⟨0,1,⟨n,m⟩,⟨n,m⟩,Vector.replicate 16 ax.zero,Vector.replicate 6 ar.zero⟩:=by rw[Ez]
theorem BK(k:Nat)(hk:k<6):bD (gJ n m k).cells (38+k*5) (.int .i64 (k:Int)) (gJ n m (k+1)).cells:=⟨by
 rcases k with _|_|_|_|_|_|k
 all_goals first|omega|kernel_rfl,by rw[aj.size];show 38+k*5+1<=68;omega⟩
theorem F5(k i:Nat)(hi:i<6):(mr k)[i].res.n=0:=by
 rcases i with _|_|_|_|_|_|i
 all_goals first|rfl|omega
@[reducible] def Ap(n m:Int)(y:AC):aM:=⟨gJ n m 6,ah.zero,⟨none,0,0⟩,⟨y.a,1,y.c⟩,0⟩
def OH(e:bG):Value:= .agg e.cells
def Ou(v:af):Value:= .agg v.cells
def jJ:ByteArray:=⟨#[115,116,97,116,101]⟩
theorem Od(w:World):PredAt prog 188 #[] Go.Proofs.encR pw w:=fun W r _=>by
 unfold FnGives pw;by_cases h1:r<97<;>by_cases h2:122<r
 all_goals
   have z1:(r:Int)<97↔r<97:=om;have z2:(122:Int)<(r:Int)↔122<r:=om
   go_enter func188,ntmps188
   go_wp2
   all_goals first|(exfalso;omega)|(go_ret;exact⟨by simp[h1,h2],0,rfl⟩)
theorem NY{s:ByteArray}:CT prog w0 H 117 [.string s,.func (.func 188) #[] #[]] (α:=Unit) (fun _=> .int .i64 (Lib.idxFunc pw true s)) (fun _=>H):=fun w hw=>by
 refine(Any.strings_IndexFunc M3 188 #[] (enters_of func188 kr rfl) pw s w (Od w)).mono ?_;rintro e w' ⟨rfl,hb⟩;exact⟨(),rfl,St.later hw hb⟩
def PT:ByteArray:=⟨#[108,111,103]⟩
theorem EI:tU PT=true:=adv
theorem L5:Lib.idxFunc pw true jJ= -1:=adv
attribute [local irreducible] fH dS
theorem AJ:CT prog w0 (H) 9 [] (α:=Unit) (fun _=> .agg (aH.mk 0 ((15:Nat):Int)).cells) (fun _=>H):=by
 refine al func9 rfl ntmps9 rfl (gG ?_);refine ze rfl (an (fun b0=>gG ?_));refine zq (aA [(1,(.int .u16 _))] rfl kr) rfl ?_;refine aag ?_;exact zX () [_] results9 ⟨⟨_,rfl,ak rfl⟩,trivial⟩ rfl SB
theorem Na:CT prog w0 (H) 21 [] (α:=Nat) (fun y=> .pointer (some ⟨y,0,none⟩)) (fun _=>H):=by
 refine air ?_;refine ze rfl (mj OH Ou (fun r1=>?_));refine ah8 ?_;refine ze rfl (aZ rfl (fun b3=>gG ?_));exact zX b3 [_] results21 ⟨rfl,trivial⟩ rfl SB
theorem Fp:CT prog w0 (H) 23 [.agg (aH.mk n m).cells] (α:=Unit) (fun _=> .agg (gJ n m 6).cells) (fun _=>H):=by
 refine al func23 rfl ntmps23 rfl (gG ?_);refine ze rfl (aZ rfl (fun b1=>?_));refine ze rfl (an (fun b2=>gG ?_));refine afv ?_;refine ze rfl (an (fun b3=>?_));refine aag ?_;refine bH [4,8,9,10,11,12,13,14,15,16] [8] (fun us H'=>∃(k:Nat),us=[.int .i64 (k:Int)]/\aF b3 (.cells (gJ n m k).cells 44 (0,0))::aF b2 (.cells aj.zero.cells 44 (0,0))::H=H'/\k<=6) (fun us=>match us with| .int _ i::_=>6-i.toNat|_=>0) ⟨0,rfl,rfl,om⟩ (fun w hw=>by rw[tS];exact SB w hw) ?_;rintro τ0 _ _ ⟨k,rfl,rfl,hk0⟩ _;refine gG ?_;refine yC ?_ ?_<;>intro h9 p9
 ·have hk:k<6:=om;have hpk:=BK (n:=n) (m:=m) k hk;refine gG ?_;refine zq (zf 38 rfl rfl) rfl (zq (aQ (sz:=5) (38+k*5) k rfl rfl underlying42 rfl rfl ago om) rfl (zq (zf (38+k*5) rfl rfl) rfl ?_));refine aaI ?_;exact acI
 obtain rfl:k=6:=om;refine gG ?_;refine Za ?_;refine aag ?_;exact zX () [_] results23 ⟨⟨_,rfl,ak rfl⟩,trivial⟩ rfl SB
theorem DR:CT prog w0 (H) 104 [.slice none 0 0] (α:=Unit) (fun _=> .slice none 0 0) (fun _=>H):=by
 refine aie ?_;refine Z0 ?_;refine Ze ?_;exact zX () [_] results104 ⟨rfl,trivial⟩ rfl SB
theorem Mu{f:Value}:CT prog w0 (H) 181 [.slice none 0 0,f] (α:=Unit) (fun _=> .slice none 0 0) (fun _=>H):=by
 refine aif ?_;refine gD (cc ?_);refine gG ?_;refine Zb ?_;refine Zl ?_;exact zX () [_] results181 ⟨rfl,trivial⟩ rfl SB
theorem GU:CT prog w0 (H) 107 [.slice none 0 0] (α:=Unit) (fun _=> .slice none 0 0) (fun _=>H):=by
 refine aih ?_;refine ze rfl (zc (Mu) rfl (fun x4=>gG ?_));exact zX () [_] results107 ⟨rfl,trivial⟩ rfl SB
theorem ND:CT prog w0 (H) 54 [.agg ah.zero.cells] (α:=Unit) (fun _=> .agg ah.zero.cells) (fun _=>H):=by
 refine aiy ?_;refine ze rfl (aZ rfl (fun b1=>?_));refine ze rfl (an (fun b2=>gG ?_));refine dw (aF b1 (.cells ah.zero.cells 50 (0,0))::aF b2 (.cells ah.zero.cells 50 (0,0))::H) [(0,true),(1,true),(3,true),(4,true),(2,false),(6,true),(5,false),(7,false),(8,true),(9,false)] (fun hns0=>?_);refine zd hns0 rfl (zf 33 rfl rfl) rfl (zd hns0 rfl (zl rfl) rfl (zd hns0 rfl (zf 34 rfl rfl) rfl ?_));refine gA ?_;refine cX rfl rfl (zc (DR) rfl (fun x5=>⟨SB,?_⟩));refine zd hns0 rfl (zf 33 rfl rfl) rfl ?_;refine cX rfl rfl (zc (GU) rfl (fun x8=>⟨SB,?_⟩));refine gS rfl (az (.slice _ _ _) rfl rfl (⟨SB,?_⟩));refine zd hns0 rfl (zf 34 rfl rfl) rfl ?_;refine gS rfl (az (.slice _ _ _) rfl rfl (⟨SB,(gA ?_)⟩));refine aag ?_;exact zX () [_] results54 ⟨⟨_,rfl,ak rfl⟩,trivial⟩ rfl SB
theorem NA{num:Int}{mk:Nat}(hmk:mk<65536):CT prog w0 (H) 22 [.agg (gJ num (mk:Int) 6).cells,.agg ah.zero.cells] (α:=AC) (fun y=> .agg (Ap num (mk:Int) y).cells) (fun _=>H):=by
 refine aiz ?_;refine ze rfl (aZ rfl (fun b2=>?_));refine ze rfl (aZ rfl (fun b3=>?_));refine ze rfl (an (fun b4=>gG ?_));refine dw (aF b2 (.cells (gJ num (mk:Int) 6).cells 44 (0,0))::aF b3 (.cells ah.zero.cells 50 (0,0))::H) [(0,true),(1,true),(3,true),(6,true),(7,true),(2,false),(4,false),(5,false),(8,true),(9,false)] (fun hns0=>?_);refine gA ?_;refine cX rfl rfl (zc (ND) rfl (fun x7=>⟨SB,?_⟩));refine cX rfl rfl (zc (B6 (s:=0) (f:=1) (n1:=num) (n2:=num) (m1:=mk) (m2:=mk) (cs:=Vector.replicate 16 ax.zero) (rs:=mr 6) hmk hmk (fun i hi=>by simp[ax.zero]) (fun i hi=>by rw[F5 6 i hi];decide)) rfl (fun x9=>⟨SB,?_⟩));obtain⟨hv,hhv⟩:∃hv,hv=fH (dS 0 1 num mk num mk (Vector.replicate 16 ax.zero) (mr 6)):=⟨_,rfl⟩;rw[←hhv];refine cX rfl rfl (cr (m:=1) [.agg (aX hv).toArray] (aX hv) rfl rfl rfl abY abY rfl rfl (fun a10 c10=>⟨SB,?_⟩));refine zd hns0 rfl (aA [(0,(.agg _)),(1,(.agg _)),(3,.slice _ _ _),(4,(.int .i64 _))] rfl kr) rfl ?_;refine aaE ?_;exact zX ⟨a10,c10⟩ [_] results22 ⟨⟨_,rfl,ak rfl⟩,trivial⟩ rfl SB
theorem Kw:CT prog w0 (H) 109 [.string jJ] (α:=Unit) (fun _=> .bool true) (fun _=>H):=by
 refine al func109 rfl ntmps109 rfl (gG ?_);refine Zy ?_;refine Zy ?_;refine ze rfl (zc (NY (s:=jJ)) rfl (fun x13=>?_));rw[L5];refine gG ?_;exact zX () [.bool true] results109 ⟨congrArg Value.bool dc,trivial⟩ rfl SB
theorem uG:CT prog w0 (H) 56 [.pointer (some ⟨p,0,none⟩),.string jJ] (α:=Unit) (fun _=> .int .i64 0) (fun _=>H):=by
 refine al func56 rfl ntmps56 rfl (gG ?_);refine Zm ?_;refine Zb ?_;refine ze rfl (zc (Kw) rfl (fun x11=>gG ?_));refine Zb ?_;exact zX () [_] results56 ⟨rfl,trivial⟩ rfl SB
theorem L9{s:DS}{M K:Nat}(hok:s.Ok M K)(hM:M<=1000000)(hK:K<=1000000000)(he:s.e2=[]):CT prog w0 (DS.H p s H) 24 [.pointer (some ⟨p,0,none⟩),.string jJ] (α:=Unit) (fun _=> .tuple #[.slice none 0 0,.int .i64 13]) (fun _=>DS.H p s H):=by
 refine afd ?_;refine ze rfl (zc (uG) rfl (fun x13=>gG ?_));refine Zb ?_;refine ze rfl (zc (uz (p:=p) (s:=s) hok hM om (nm:=jJ)) rfl (fun x20=>?_));rw[show eZ s.e2 jJ=false from by rw[he];rfl,if_neg dc];refine gG ?_;refine Ze ?_;exact agR
theorem Lf{s:DS}{M K:Nat}(hok:s.Ok M K)(hM:M<=1000000)(hK:K<=1000000000)(he:s.e2=[]){num:Int}{mk:Nat}(hmk:mk<65536)(hr:dC num mk=true):CT prog w0 (DS.H p s H) 8 [.pointer (some ⟨p,0,none⟩),.agg (aH.mk num (mk:Int)).cells] (α:=(Nat×Nat)×(Nat×Nat×AC)) (fun y=> .tuple #[.pointer (some ⟨y.1.1,0,none⟩),.int .i64 0]) (fun y=>aF y.1.1 (.cells (bq.mk (some ⟨y.1.2,0,none⟩) (some ⟨p,0,none⟩) (some ⟨y.2.1,0,none⟩) (some ⟨y.2.2.1,0,none⟩) false).cells 84 (0,0))::aF y.1.2 (.cells (Ap num (mk:Int) y.2.2.2).cells 87 (0,0))::DS.H p s H):=by
 refine aiL ?_;refine ze rfl (aZ rfl (fun b3=>gG ?_));refine Zm ?_;refine Zb ?_;refine ze rfl (zc (pZ hmk) rfl (fun x18=>?_));rw[hr];refine gG ?_;refine Zb ?_;refine ze rfl (zc (Na) rfl (fun x21=>?_));refine af3 ?_;refine ze rfl (aZ rfl (fun b23=>gG ?_));refine ze rfl (zc (Fp) rfl (fun x25=>?_));refine aaC ?_;refine ze rfl (zc (NA hmk) rfl (fun x27=>?_));refine ze rfl (an (fun b7=>?_));refine aag ?_;refine cu (DS.H p s (aF b7 (.cells (Ap num (mk:Int) x27).cells 87 (0,0))::aF b23 (.cells (bq.mk none (some ⟨p,0,none⟩) none (some ⟨x21,0,none⟩) false).cells 84 (0,0))::H)) ?_;refine ze rfl (zc (L9 (p:=p) (s:=s) hok hM hK he) rfl (fun x30=>gG ?_));refine Zb ?_;refine Zb ?_;refine abz ?_;refine cu (DS.H p s (aF b7 (.cells (Ap num (mk:Int) x27).cells 87 (0,0))::aF b23 (.cells (bq.mk (some ⟨b7,0,none⟩) (some ⟨p,0,none⟩) none (some ⟨x21,0,none⟩) false).cells 84 (0,0))::H)) ?_;refine ze rfl (zc (KH (p:=p) (s:=s) hok hM he (pre:=PT) afM EI) rfl (fun x53=>gG ?_));refine abz ?_;refine Zb ?_;refine gD (cc ?_);refine gG ?_;refine Zb ?_;refine Zl ?_;exact zX ((b23,b7),(x53,x21,x27)) [_,_] results8 ⟨rfl,rfl,trivial⟩ rfl SB
end
section
attribute [local irreducible] fH dS
variable {w0:World} {H:List SA} {sb:Nat} {t:aM}
theorem GC:CT prog w0 (aF sb (.cells t.cells 87 (0,0))::H) 51 [.pointer (some ⟨sb,0,none⟩)] (α:=Unit) (fun _=> .agg t.world.cells) (fun _=>aF sb (.cells t.cells 87 (0,0))::H):=by
 refine aiA ?_;refine ze rfl (an (fun b2=>gG ?_));refine Zx ?_;refine Zb ?_;refine aag ?_;exact afY
theorem Gs:CT prog w0 (aF sb (.cells t.cells 87 (0,0))::H) 52 [.pointer (some ⟨sb,0,none⟩)] (α:=Unit) (fun _=> .int .i64 t.saved) (fun _=>aF sb (.cells t.cells 87 (0,0))::H):=by
 refine aiB ?_;refine Zx ?_;refine Zb ?_;refine ZO ?_;exact aho
theorem BY{q:Nat}{d l b:Option Addr}{fu:Bool}:CT prog w0 (aF q (.cells (bq.mk (some ⟨sb,0,none⟩) d l b fu).cells 84 (0,0))::aF sb (.cells t.cells 87 (0,0))::H) 17 [.pointer (some ⟨q,0,none⟩)] (α:=Unit) (fun _=> .agg t.world.cells) (fun _=>aF q (.cells (bq.mk (some ⟨sb,0,none⟩) d l b fu).cells 84 (0,0))::aF sb (.cells t.cells 87 (0,0))::H):=by
 refine aiC ?_;refine ze rfl (an (fun b2=>gG ?_));refine Zn ?_;refine Zb ?_;refine ahS ?_;refine ze rfl (zc (GC (sb:=sb) (t:=t)) rfl (fun x10=>?_));refine aag ?_;exact afZ
theorem Jw{q:Nat}{d l b:Option Addr}{fu:Bool}:CT prog w0 (aF q (.cells (bq.mk (some ⟨sb,0,none⟩) d l b fu).cells 84 (0,0))::aF sb (.cells t.cells 87 (0,0))::H) 18 [.pointer (some ⟨q,0,none⟩)] (α:=Unit) (fun _=> .int .i64 t.saved) (fun _=>aF q (.cells (bq.mk (some ⟨sb,0,none⟩) d l b fu).cells 84 (0,0))::aF sb (.cells t.cells 87 (0,0))::H):=by
 refine aiD ?_;refine Zn ?_;refine Zb ?_;refine ahS ?_;refine ze rfl (zc (Gs (sb:=sb) (t:=t)) rfl (fun x9=>gG ?_));exact ahp
theorem nG:dC 0 15=true:=adv
theorem G1:CT prog w0 (H) 5 [] (α:=Unit) (fun _=> .bool true) (fun _=>H):=by
 refine al func5 rfl ntmps5 rfl (gG ?_);refine ze rfl (zc (Ks (n:=1000)) rfl (fun x4=>?_));refine ze rfl (zc (AJ) rfl (fun x5=>?_));have hok0:(oE x4.2.1 x4.2.2 1000).Ok 0 10000:=(Am _ _ _).mono dc dc;refine ze rfl (zc (Lf (p:=x4.1) (s:=(oE x4.2.1 x4.2.2 1000)) hok0 dc dc rfl (num:=0) (mk:=15) dc nG) rfl (fun x6=>gG ?_));refine yS 11 ?_ ?_<;>intro h11 p11
 ·refine gG ?_;refine ze rfl (zc (BY) rfl (fun x13=>gG ?_));refine ZP ?_;refine yS 17 ?_ ?_<;>intro h17 p17
  ·refine gG ?_;refine ze rfl (zc (BY) rfl (fun x19=>gG ?_));refine ZP ?_;refine yS 23 ?_ ?_<;>intro h23 p23
   ·refine gG ?_;refine ze rfl (zc (Jw) rfl (fun x25=>gG ?_));exact zX () [.bool true] results5 ⟨congrArg Value.bool (decide_eq_true rfl),trivial⟩ rfl SB
   exact absurd (h23.symm.trans (decide_eq_true rfl)) dc
  exact absurd (h17.symm.trans (decide_eq_true rfl)) dc
 exact absurd (h11.symm.trans (decide_eq_true rfl)) dc
end
end Go.Proofs.YtmbfimckmfnnjaaGreatDoor
