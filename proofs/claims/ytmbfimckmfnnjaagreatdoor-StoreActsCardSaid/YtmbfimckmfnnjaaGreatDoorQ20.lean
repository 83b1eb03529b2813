/- Steps of the proof of a law. -/
import Derived.Test.YtmbfimckmfnnjaaGreatDoorQ09
import Derived.Test.YtmbfimckmfnnjaaGreatDoorQ14
set_option maxRecDepth 100000
set_option maxHeartbeats 1000000
set_option linter.unusedSimpArgs false
set_option linter.unusedVariables false
namespace Go.Proofs.YtmbfimckmfnnjaaGreatDoor
open Go.RowKit Go.Sx Go.Proofs.Tryz
theorem Nw{w0:World}{H:List SA}{n:Nat}(hn:n<=4294967296):CT prog w0 (H) 179 [.slice none 0 0,.int .i64 (n:Int)] (α:=AC) (fun y=> .slice y.a ([]:List UInt8).length y.c) (fun y=>row (.slice y.a ([]:List UInt8).length y.c) 5 1 (aE [])::H):=by
 refine al func179 rfl ntmps179 rfl (gG ?_);refine yC ?_ ?_<;>intro h6 p6
 ·exact absurd p6 om
 refine gG ?_;refine zq (sB rfl underlying47) rfl (zq (zm (.slice _ _ _) rfl) rfl (zq (zL rfl underlying47) rfl ?_))
 first|refine yU rfl rfl ?_|refine zq (iq rfl rfl) rfl ?_
 refine zq (bI (jG rfl rfl om om) (congrArg (Value.int .i64) (show _=(n:Int)from by omega))) rfl ?_;refine gG ?_;refine yC ?_ ?_<;>intro h16 p16
 ·refine gG ?_;refine zq (sB rfl underlying47) rfl (zq (nO 0 rfl rfl (fun _ _=>W8 _)) rfl ?_);refine gG ?_;refine ze rfl (xw rfl rfl underlying3 om hn rfl (fun a22 c22=>gG ?_));refine zq (nO 0 rfl rfl (fun _ _=>Xv _)) rfl ?_;refine gG ?_;exact zX ⟨a22,c22⟩ [_] results179 ⟨rfl,trivial⟩ rfl (fun _ hw=>hw)
 obtain rfl:n=0:=om;refine gG ?_;exact zX ⟨none,0⟩ [_] results179 ⟨rfl,trivial⟩ rfl (fun w hw=>(SB w hw:St w0 H w).cP 5)
def kK(ls:List BS)(k:Nat):List UInt8:=((ls.map BS.l).take k).flatten
theorem mx(ls:List BS)(k:Nat)(hk:k<ls.length):kK ls (k+1)=kK ls k++ls[k].l:=by
 unfold kK;rw[fR _ _ abf];simp
theorem vL(ls:List BS){k:Nat}(hk:ls.length<=k):kK ls k=(ls.map BS.l).flatten:=by
 unfold kK;rw[W7 abf]
theorem yJ(ls:List BS)(k:Nat):(kK ls k).length<=((ls.map BS.l).flatten).length:=by
 have h:(ls.map BS.l).flatten=kK ls k++((ls.map BS.l).drop k).flatten:=by unfold kK;rw[←List.flatten_append,XC]
 rw[h];simp
theorem HR{w0:World}{H:List SA}{a:Option Addr}{ls:List BS}{c:Nat}[hr:gy w0 H (.slice a ls.length c) 1 (ls.map BS.val)][re:ju w0 H ls](hs:(ls.map BS.l).flatten.length<=4294967296)(hn:ls.length<=4294967296):CT prog w0 (H) 103 [.slice a ls.length c] (α:=AC) (fun y=> .slice y.a (ls.map BS.l).flatten.length y.c) (fun y=>row (.slice y.a (ls.map BS.l).flatten.length y.c) 5 1 (aE (ls.map BS.l).flatten)::H):=by
 refine al func103 rfl ntmps103 rfl (gG ?_);refine bH [3,5,11,12,13,14,15,16,17,18,19,20,21,22] [11,3] (fun us H'=>∃(k:Nat),us=[.int .i64 (k:Int),.int .i64 ((kK ls k).length:Int)]/\H=H'/\k<=ls.length) (fun us=>match us with| .int _ i::_=>ls.length-i.toNat|_=>0) ⟨0,rfl,rfl,om⟩ SB ?_;rintro τ0 _ _ ⟨k,rfl,rfl,hk0⟩ _;refine gG ?_;refine yC ?_ ?_<;>intro h12 p12
 ·have hk:k<ls.length:=om;have hj:=yJ ls (k+1);rw[mx ls k hk,WX]at hj;refine gG ?_;refine ZB ?_;refine zq (bI (gh rfl rfl om om) (congrArg (Value.int .i64) (show((kK ls k).length:Int)+(ls[k].l.length:Int)=((kK ls (k+1)).length:Int)from by rw[mx ls k hk,WX];omega))) rfl ?_;refine gG ?_;refine yC ?_ ?_<;>intro h20 p20
  ·exact absurd p20 om
  refine gA ?_;exact acI
 have ej:=vL ls (k:=k) om;rw[ej];refine gG ?_;refine Za ?_;refine ze rfl (zc (Nw hs) rfl (fun x24=>gG ?_));refine bH [6,8,27,28,29,30,31,32,33,34] [27,6] (fun us H'=>∃(k:Nat)(a1:Option Addr)(c1:Nat),us=[.int .i64 (k:Int),.slice a1 (kK ls k).length c1]/\row (.slice a1 (kK ls k).length c1) 5 1 (aE (kK ls k))::H=H'/\k<=ls.length) (fun us=>match us with| .int _ i::_=>ls.length-i.toNat|_=>0) ⟨0,_,_,rfl,rfl,om⟩ (fun _ hw=>hw) ?_;rintro τ1 _ _ ⟨k,a1,c1,rfl,rfl,hk0⟩ _;refine gG ?_;refine yC ?_ ?_<;>intro h28 p28
 ·have hk:k<ls.length:=om;have hj:=yJ ls (k+1);rw[mx ls k hk,WX]at hj;refine gG ?_;refine ZB ?_;refine ze rfl (bR (sv:= .slice _ _ _) (xv:= .slice _ _ _) rfl rfl om rfl (fun a33 c33=>?_));rw[←mx ls k hk];refine gA ?_;exact xl ⟨k+1,_,_,rfl,rfl,om⟩
 have ej:=vL ls (k:=k) om;rw[ej];refine gG ?_;refine Za ?_;exact zX ⟨a1,c1⟩ [_] results103 ⟨rfl,trivial⟩ rfl SB
instance ju.two{w0:World}{H:List SA}{x y:BS}[h:dT w0 H (.slice x.a x.l.length x.c) x.l][h2:dT w0 H (.slice y.a y.l.length y.c) y.l]:ju w0 H [x,y]:=⟨fun z hz w hw=>by
 rcases Xg.1 hz with rfl|hz
 · exact h.rd w hw
 · obtain rfl:z=y:=by simpa using hz
   exact h2.rd w hw⟩
theorem G5{w0:World}{H:List SA}{a:Option Addr}{x y:BS}{c:Nat}[hr:gy w0 H (.slice a 2 c) 1 [x.val,y.val]][h1:dT w0 H (.slice x.a x.l.length x.c) x.l][h2:dT w0 H (.slice y.a y.l.length y.c) y.l](hs:x.l.length+y.l.length<=4294967296):CT prog w0 H 103 [.slice a 2 c] (α:=AC) (fun z=> .slice z.a (x.l++y.l).length z.c) (fun z=>row (.slice z.a (x.l++y.l).length z.c) 5 1 (aE (x.l++y.l))::H):=by
 have e:([x,y].map BS.l).flatten=x.l++y.l:=sm;have:=HR (w0:=w0) (H:=H) (a:=a) (ls:=[x,y]) (c:=c) (hr:=hr) (re:=ju.two) (by rw[e];simpa using hs) sm
 rwa [e]at this
abbrev FM:=List (iK ByteArray BS)
def encS(s:ByteArray):Value:= .string s
instance Py:Key prog 9 encS where
 eq x y w:=mP (x:=encS x) (y:=encS y) (h:=(inferInstance:KA prog 9 (.string x) (.string y) _)) w
 now d hd x y:=by
   rw[underlying9]at hd;obtain rfl: .string=d:=by simpa using hd
   right
   simp only[encS,Instr.sameNow]
   congr 1
   rw[W5,B1];simp
 there:=by rw[underlying9];rfl
 check k empty w:=by
   have h:∀n,n=9999+1->(Instr.checkKey empty n 9 (encS k)).run prog w= .ok () w:=fun n hn=>by
     rw[hn,Instr.checkKey];simp only[Sem.run_bind,run_underlying underlying9,Result.andThen_ok,encS,Sem.run_pure]
   exact h 10000 dc
 same k:=by
   have h:∀n,Instr.sameBits n (encS k) (encS k)=true:=fun n=>by cases n<;>exact(B1 k k).2 rfl
   exact h 10000
def zB:BS:=⟨none,0,[]⟩
def gl(es:FM)(k:ByteArray):BS:=(eu es k).getD zB
theorem rl:(Tryz.prog.info? 47).bind (·.zero)=some (BS.val zB):=(inferInstance:lT prog 47 (.slice none 0 0)).ok
def oA(es:FM)(a:ca)(x:BS)(c:Nat):FM:=if a.kind=1∨a.kind=2 then fZ es a.name x c
 else if a.kind=3 then(if eZ es a.name=true/\a.name≠a.to then fZ (ji es a.name) a.to (gl es a.name) c else es)else if a.kind=4 then ji es a.name else es
def sE(es:FM)(a:ca)(c:Nat):Nat:=if a.kind=1∨a.kind=2 then gM es a.name c
 else if a.kind=3 then(if eZ es a.name=true/\a.name≠a.to then gM (ji es a.name) a.to c else c)else c
def kA(es:FM)(a:ca):List UInt8:=if a.kind=1 then(gl es a.name).l++a.b.l else if a.kind=2 then a.b.l else[]
def kF(es:FM):Nat:=(es.map fun e=>e.v.l.length).sum
theorem tx(g:iK ByteArray BS->Nat):∀(L:FM)(e:iK ByteArray BS),(L.map (·.b)).Nodup->e∈L->(L.map g).sum=g e+((L.filter fun x=> !(x.b==e.b)).map g).sum
 |[],e,_,he=>by cases he
 |x::L,e,hn,he=>by
   simp only[Xt,YB]at hn;rcases Xg.1 he with rfl|he
   · have h1:L.filter (fun x=> !(x.b==e.b))=L:=List.filter_eq_self.2 fun y hy=>by
       have:y.b≠e.b:=fun h=>hn.1 (h▸Xd.2 ⟨y,hy,rfl⟩);simpa using this
     rw[YP (p:=fun x:iK ByteArray BS=> !(x.b==e.b))];simp only[beq_self_eq_true,Bool.not_true,Xm,if_false,h1,Xt,List.sum_cons]
   · have hne:x.b≠e.b:=fun h=>hn.1 (h▸Xd.2 ⟨e,he,rfl⟩)
     have ih:=tx g L e hn.2 he;rw[YP (p:=fun x:iK ByteArray BS=> !(x.b==e.b))];simp only[show(!(x.b==e.b))=true from by simpa using hne,if_true,Xt,List.sum_cons];omega
theorem wG(es:FM)(seen:Array Nat)(b:Nat):fE es (seen.push b)=(fE es seen).filter fun x=> !(x.b==b):=by
 unfold fE;rw[List.filter_filter]
 congr 1
 funext x
 simp only[Array.contains_push,Bool.not_or];cases seen.contains x.b<;>cases h:(x.b==b)<;>simp_all
theorem tH{es:FM}{seen:Array Nat}(h:(es.map (·.b)).Nodup):((fE es seen).map (·.b)).Nodup:=by
 unfold fE;exact h.sublist (List.filter_sublist.map _)
theorem Hf{es:FM}{seen:Array Nat}{e:iK ByteArray BS}(h:(es.map (·.b)).Nodup)(he:e∈fE es seen):kF (fE es seen)=e.v.l.length+kF (fE es (seen.push e.b)):=by
 have:=tx (fun x=>x.v.l.length) _ e (tH (seen:=seen) h) he;unfold kF;rw[wG,this]
theorem D6{es:FM}{seen:Array Nat}{e:iK ByteArray BS}(h:(es.map (·.b)).Nodup)(he:e∈fE es seen):(fE es (seen.push e.b)).length<(fE es seen).length:=by
 have:=tx (fun _=>1) _ e (tH (seen:=seen) h) he;rw[wG];simp only[List.map_const',List.sum_replicate_nat,Yp]at this;omega
theorem FV(es:FM):fE es #[]=es:=by simp[fE]
theorem Bc{w0:World}{H:List SA}{r c:Nat}{es:FM}:CT prog w0 (aF r (cF encS BS.val es c)::H) 105 [.map (some r)] (α:=Nat) (fun q=> .map (some q)) (fun q=>aF q (cF encS BS.val es c)::aF r (cF encS BS.val es c)::H):=by
 refine al func105 rfl ntmps105 rfl (gG ?_);refine zq (ED rfl rfl underlying74) rfl ?_;refine gG ?_;refine yC ?_ ?_<;>intro h4 p4
 ·
  cases h4
 refine gG ?_;refine zq (xg rfl underlying74) rfl ?_;refine ze rfl (zO (enc:=encS) (ev:=BS.val) (r:=r) (es:=es) (c:=c) rfl func180 kr kr kr kr (fun q7=>?_));refine zq (AD rfl underlying74) rfl ?_;refine gG ?_;exact zX q7 [_] results105 ⟨rfl,trivial⟩ rfl SB
theorem K4{w0:World}{H:List SA}{r c:Nat}{es:FM}(hg:eQ es c)(hs:kF es<=4000000000000000):CT prog w0 (aF r (cF encS BS.val es c)::H) 260 [.map (some r)] (α:=Unit) (fun _=> .int .i64 (kF es:Int)) (fun _=>aF r (cF encS BS.val es c)::H):=by
 refine al func260 rfl ntmps260 rfl (gG ?_);refine ze rfl (Bb rfl underlying74 (fun it7=>gG ?_));refine qa (m0:=(fE es #[]).length) [3,5,8,9,10,11,12,13,14,15] [3] (fun us H' m=>∃(n:Nat)(seen:Array Nat),us=[.int .i64 (n:Int)]/\aF it7 (.mapIter (some r) c seen c)::aF r (cF encS BS.val es c)::H=H'/\m=(fE es seen).length/\n+kF (fE es seen)=kF es) ⟨0,#[],rfl,rfl,rfl,by rw[FV,XQ]⟩ SB ?_;rintro τ0 _ _ m ⟨n,seen,rfl,rfl,rfl,hn⟩ _;refine gG ?_;refine ze rfl (E8 rfl hg.lt hg.lt (fun hz8=>?_) (fun en8 hen8=>?_))
 ·rw[hz8]at hn;have hn2:n=kF es:=hn;rw[hn2];refine gG ?_;refine Zi ?_;refine Zv ?_;exact zX () [_] results260 ⟨rfl,trivial⟩ rfl SB
 have hmem:en8∈es:=(Yg.1 hen8).1;refine gG ?_;refine Zc ?_;refine zq (Be en8 rfl hmem hg.born) rfl ?_;refine gG ?_;have hb2:=Hf hg.born hen8;refine zq (bI (gh rfl rfl om om) (congrArg (Value.int .i64) (show(n:Int)+(en8.v.l.length:Int)=((n+en8.v.l.length:Nat):Int)from by omega))) rfl ?_;refine gG ?_;refine qc _ zA (⟨n+en8.v.l.length,seen.push en8.b,rfl,rfl,rfl,om⟩) (D6 hg.born hen8) (SB)
def jI(s:ByteArray):Bool:=decide (1<=s.size/\s.size<=24)
theorem ru{w0:World}{H:List SA}{s:ByteArray}:CT prog w0 (H) 215 [.string s] (α:=Unit) (fun _=> .bool (jI s)) (fun _=>H):=by
 refine al func215 rfl ntmps215 rfl (gG ?_);refine Zy ?_;refine yS 6 ?_ ?_<;>intro h6 p6<;>refine gG ?_
 ·refine Zy ?_;refine af9 ?_;refine aaz ?_;rw[W5];simp only[jI,decide_eq_true_eq,Xm,false_iff];omega
 refine af9 ?_;refine aaz ?_;rw[W5];simp only[jI,decide_eq_true_eq,Xm,false_iff];omega
theorem St.py{w0 w:World}{H:List SA}{x:SA}(e:TypeId)(h:St w0 (x::H) w):St w0 (x::row (.slice none ([]:List UInt8).length 0) e 1 (aE [])::H) w:=by
 have h1:=h.cP e;exact cJ.st (H:=row (.slice none ([]:List UInt8).length 0) e 1 (aE [])::x::H) inferInstance w h1
theorem MX{w0:World}{H:List SA}{r c:Nat}{es:FM}{a:ca}[ro:dT w0 H (.slice (gl es a.name).a (gl es a.name).l.length (gl es a.name).c) (gl es a.name).l][rb:dT w0 H (.slice a.b.a a.b.l.length a.b.c) a.b.l](hs:(gl es a.name).l.length+a.b.l.length<=4294967296):CT prog w0 (aF r (cF encS BS.val es c)::H) 49 [.map (some r),.agg a.cells] (α:=BS) (fun _=> .tuple #[]) (fun x=>pu (x.l=kA es a)::aF r (cF encS BS.val (oA es a x c) (sE es a c))::row (.slice x.a x.l.length x.c) 5 1 (aE x.l)::H):=by
 refine al func49 rfl ntmps49 rfl (gG ?_);refine ze rfl (aZ rfl (fun b3=>gG ?_));refine yC ?_ ?_<;>intro h8 p8
 ·refine dw (aF b3 (.cells a.cells 121 (0,0))::H) [(0,true),(1,true),(2,true),(3,true),(4,true),(5,true),(7,true),(8,true),(6,false),(9,false),(10,false),(11,false)] (fun hns0=>?_);refine gA ?_;refine cX rfl rfl (dW (lZ (key:=a.name) (enc:=encS) (ev:=BS.val) (zB) rfl rfl underlying74 rl) (⟨SB,?_⟩));rw[show(eu es a.name).getD zB=gl es a.name from rfl];refine cX rfl rfl (cr (m:=2) [BS.val (gl es a.name),BS.val a.b] [BS.val (gl es a.name),BS.val a.b] rfl rfl rfl rfl (by simp[Value.cells,BS.val]) rfl rfl (fun a19 c19=>⟨SB,?_⟩));refine cX rfl rfl (zc (G5 (x:=gl es a.name) (y:=a.b) hs) rfl (fun x20=>⟨SB,?_⟩));refine gS rfl (kH (key:=a.name) (enc:=encS) (ev:=BS.val) (⟨x20.a,x20.c,(gl es a.name).l++a.b.l⟩) rfl rfl rfl underlying74 (⟨SB,(gA ?_)⟩));have e1:oA es a ⟨x20.a,x20.c,(gl es a.name).l++a.b.l⟩ c=fZ es a.name ⟨x20.a,x20.c,(gl es a.name).l++a.b.l⟩ c:=by unfold oA;rw[if_pos om]
  have e2:sE es a c=gM es a.name c:=by unfold sE;rw[if_pos om]
  have e3:kA es a=(gl es a.name).l++a.b.l:=by unfold kA;rw[if_pos om]
  exact zX ⟨x20.a,x20.c,(gl es a.name).l++a.b.l⟩ [] results49 trivial rfl (fun w hw=>by rw[e1,e2];exact St.aC ((SB w hw:St w0 (aF r (cF encS BS.val (fZ es a.name ⟨x20.a,x20.c,(gl es a.name).l++a.b.l⟩ c) (gM es a.name c))::row (.slice (BS.mk x20.a x20.c ((gl es a.name).l++a.b.l)).a (BS.mk x20.a x20.c ((gl es a.name).l++a.b.l)).l.length (BS.mk x20.a x20.c ((gl es a.name).l++a.b.l)).c) 5 1 (aE (BS.mk x20.a x20.c ((gl es a.name).l++a.b.l)).l)::H) w)) e3.symm)
 refine gG ?_;refine yC ?_ ?_<;>intro h21 p21
 ·refine dw (aF b3 (.cells a.cells 121 (0,0))::H) [(0,true),(1,true),(2,true),(3,true),(4,true),(5,false),(6,false)] (fun hns1=>?_);refine gA ?_;refine cX rfl rfl (zc (jc om) rfl (fun x28=>⟨SB,?_⟩));refine gS rfl (kH (key:=a.name) (enc:=encS) (ev:=BS.val) (⟨x28.a,x28.c,a.b.l⟩) rfl rfl rfl underlying74 (⟨SB,(gA ?_)⟩));have e1:oA es a ⟨x28.a,x28.c,a.b.l⟩ c=fZ es a.name ⟨x28.a,x28.c,a.b.l⟩ c:=by unfold oA;rw[if_pos om]
  have e2:sE es a c=gM es a.name c:=by unfold sE;rw[if_pos om]
  have e3:kA es a=a.b.l:=by unfold kA;rw[if_neg om,if_pos om]
  exact zX ⟨x28.a,x28.c,a.b.l⟩ [] results49 trivial rfl (fun w hw=>by rw[e1,e2];exact St.aC ((SB w hw:St w0 (aF r (cF encS BS.val (fZ es a.name ⟨x28.a,x28.c,a.b.l⟩ c) (gM es a.name c))::row (.slice (BS.mk x28.a x28.c a.b.l).a (BS.mk x28.a x28.c a.b.l).l.length (BS.mk x28.a x28.c a.b.l).c) 5 1 (aE (BS.mk x28.a x28.c a.b.l).l)::H) w)) e3.symm)
 refine gG ?_;refine yC ?_ ?_<;>intro h29 p29<;>refine gG ?_
 ·refine zq (oi (key:=a.name) (enc:=encS) (ev:=BS.val) (zB) rfl rfl underlying74 rl) rfl ?_;rw[show(eu es a.name).getD zB=gl es a.name from rfl];refine gG ?_;refine yS 39 ?_ ?_<;>intro h39 p39<;>refine gG ?_
  ·refine zq (vy rfl rfl) rfl ?_;refine gG ?_;refine yC ?_ ?_<;>intro h45 p45<;>refine gG ?_
   ·refine ae3 ?_;refine zN (kH (key:=a.to) (enc:=encS) (ev:=BS.val) (gl es a.name) rfl rfl rfl underlying74 ((gG ?_)));have e1:oA es a (⟨none,0,[]⟩:BS) c=fZ (ji es a.name) a.to (gl es a.name) c:=by unfold oA;rw[if_neg om,if_pos om,if_pos ⟨h39,by simpa using h45⟩]
    have e2:sE es a c=gM (ji es a.name) a.to c:=by unfold sE;rw[if_neg om,if_pos om,if_pos ⟨h39,by simpa using h45⟩]
    have e3:kA es a=[]:=adI;exact zX (⟨none,0,[]⟩:BS) [] results49 trivial rfl (fun w hw=>by rw[e1,e2];exact St.aC (St.py 5 (SB w hw:St w0 (aF r (cF encS BS.val (fZ (ji es a.name) a.to (gl es a.name) c) (gM (ji es a.name) a.to c))::H) w)) e3.symm)
   have e1:oA es a (⟨none,0,[]⟩:BS) c=es:=afx;have e2:sE es a c=c:=afy;have e3:kA es a=[]:=adI;exact abR
  refine Zi ?_;have e1:oA es a (⟨none,0,[]⟩:BS) c=es:=afx;have e2:sE es a c=c:=afy;have e3:kA es a=[]:=adI;exact abR
 refine yC ?_ ?_<;>intro h53 p53<;>refine gG ?_
 ·refine ae3 ?_;have e1:oA es a (⟨none,0,[]⟩:BS) c=ji es a.name:=by unfold oA;rw[if_neg om,if_neg om,if_pos om]
  have e2:sE es a c=c:=by unfold sE;rw[if_neg om,if_neg om]
  have e3:kA es a=[]:=adI;exact zX (⟨none,0,[]⟩:BS) [] results49 trivial rfl (fun w hw=>by rw[e1,e2];exact St.aC (St.py 5 (SB w hw:St w0 (aF r (cF encS BS.val (ji es a.name) c)::H) w)) e3.symm)
 have e1:oA es a (⟨none,0,[]⟩:BS) c=es:=by unfold oA;rw[if_neg om,if_neg om,if_neg om]
 have e2:sE es a c=c:=by unfold sE;rw[if_neg om,if_neg om]
 have e3:kA es a=[]:=adI;exact abR
end Go.Proofs.YtmbfimckmfnnjaaGreatDoor
