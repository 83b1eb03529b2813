/- Steps of the proof of a law. -/
import Derived.Test.YtmbfimckmfnnjaaGreatDoorQ40
import Derived.Test.YtmbfimckmfnnjaaGreatDoorQ41
set_option maxRecDepth 100000
set_option maxHeartbeats 1000000
set_option linter.unusedSimpArgs false
set_option linter.unusedVariables false
namespace Go.Proofs.YtmbfimckmfnnjaaGreatDoor
open Go.RowKit Go.Sx Go.Proofs.Tryz
section
attribute [local irreducible] fH dS bN jt wB eV gZ cU
variable {w0:World} {H:List SA} {n:Int}
theorem Md{a:Option Addr}{c:Nat}{ls:List BS}[rc:gy w0 H (.slice a ls.length c) 1 (ls.map BS.val)][rce:ju w0 H ls](hn:ls.length<=1000)(hl:∀x∈ls,x.l.length<=140737488351232):CT prog w0 (H) 146 [.slice a ls.length c] (α:=Unit) (fun _=> .int .i64 ((nq (ls.map BS.l):Nat):Int)) (fun _=>H):=by
 refine al func146 rfl ntmps146 rfl (gG ?_);refine bH [3,4,5,6,7,8,9,10,11,12,13,14,15,16,17] [4,3] (fun us H'=>∃(k:Nat),us=[.int .i64 (k:Int),.int .i64 ((nq ((ls.map BS.l).take k):Nat):Int)]/\H=H'/\k<=ls.length) (fun us=>match us with| .int _ i::_=>ls.length-i.toNat|_=>0) ⟨0,rfl,rfl,om⟩ SB ?_;rintro τ0 _ _ ⟨k,rfl,rfl,hk0⟩ _;refine gG ?_;refine yC ?_ ?_<;>intro h8 p8
 ·have hk:k<ls.length:=om;have hb:=Bi ls 140737488351232 k hl;have hb2:=Xp 140737488351232 hn;have hb3:=hl _ (W1 hk);refine gG ?_;refine ZK ?_;refine zq (bI (gh rfl rfl om om) (congrArg (Value.int .i64) (show((nq ((ls.map BS.l).take k):Nat):Int)+(ls[k].l.length:Int)=((nq ((ls.map BS.l).take (k+1)):Nat):Int)from by rw[CH hk];omega))) rfl ?_;refine gA ?_;exact acI
 obtain rfl:k=ls.length:=om;rw[W7 sm];refine gG ?_;refine Za ?_;exact zX () [_] results146 ⟨rfl,trivial⟩ rfl SB
theorem yn{behind:Int}{h:Vector UInt8 32}{b:BS}{p:PS}[rb:dT w0 H (.slice b.a b.l.length b.c) b.l][rp:gy w0 H (.slice p.a p.ls.length p.c) 1 (p.ls.map BS.val)][re:ju w0 H p.ls](hb:b.l.length<=4294960000)(hp:p.ls.length<=1000)(he:∀x∈p.ls,x.l.length<=140737488351232):CT prog w0 (H) 81 [.int .i64 behind,.agg (ah.mk n h b p).cells] (α:=Unit) (fun _=> .bool (dJ behind (ah.abs (ah.mk n h b p)))) (fun _=>H):=by
 refine al func81 rfl ntmps81 rfl (gG ?_);refine ze rfl (aZ rfl (fun b3=>gG ?_));refine dw (aF b3 (.cells (ah.mk n h b p).cells 50 (0,0))::H) [(0,true),(1,true),(2,true),(3,true),(4,true),(5,true),(6,true),(7,true),(8,true),(9,true),(10,true),(11,true),(12,true),(13,true),(14,true),(15,true),(16,true),(17,true),(18,true),(20,true),(21,true),(22,true),(19,false),(23,true),(24,true),(25,true)] (fun hns0=>?_);refine Z6 ?_;refine yD 12 ?_ ?_<;>intro h12 p12
 ·refine gA ?_;refine Zc ?_;have e:dJ behind (ah.abs (ah.mk n h b p))=_:=kf aaJ;rw[e];exact acu
 refine Z7 ?_;refine yD 17 ?_ ?_<;>intro h17 p17
 ·refine gA ?_;refine Zc ?_;have e:dJ behind (ah.abs (ah.mk n h b p))=_:=kf aaJ;rw[e];exact acu
 refine ag5 ?_;refine ahU ?_;refine Z8 ?_;refine yD 23 ?_ ?_<;>intro h23 p23
 ·refine gA ?_;refine Zc ?_;have e:dJ behind (ah.abs (ah.mk n h b p))=_:=kf aaJ;rw[e];exact acu
 have hz1:=AN p.ls 140737488351232 he;have hz2:=Xp 140737488351232 hp;refine ag6 ?_;refine adC ?_;refine ag7 ?_;refine adC ?_;refine agB ?_;refine lF rfl rfl rfl h23 rfl (zc (Md hp he) rfl (fun x26=>⟨SB,?_⟩))
 first|refine bB hns0 rfl rfl rfl h23 (gh rfl rfl om om) rfl ?_|refine bB hns0 rfl rfl rfl h23 (bU rfl rfl) rfl ?_
 refine gA ?_;refine yC ?_ ?_<;>intro h32 p32<;>refine gG ?_
 ·have e:dJ behind (ah.abs (ah.mk n h b p))=_:=kf aaJ;rw[e];exact acu
 refine ZF ?_;refine ze rfl (zc (pI (l:=b.l) om) rfl (fun x36=>?_));refine aV (fun h36=>?_);refine gG ?_;refine dw (aF b3 (.cells (ah.mk n h b p).cells 50 (0,0))::H) [(0,true),(1,true),(2,true),(3,true),(4,true),(6,true),(7,true),(5,false),(8,true),(9,true),(10,true)] (fun hns1=>?_);refine gA ?_;refine yD 41 ?_ ?_<;>intro h41 p41
 ·refine ag8 ?_;refine ahV ?_;refine Z9 ?_;refine lF rfl rfl rfl h41 rfl (zc (Ih (l:=b.l) om) rfl (fun x44=>⟨SB,?_⟩));refine aaa ?_;have e:dJ behind (ah.abs (ah.mk n h b p))=_:=oo abG;rw[e];exact adM
 refine gA ?_;have e:dJ behind (ah.abs (ah.mk n h b p))=_:=oo abG;rw[e];exact adM
theorem JP{m:Int}:CT prog w0 (H) 28 [.agg (aH.mk n m).cells] (α:=Unit) (fun _=> .agg (gJ n m 6).cells) (fun _=>H):=by
 refine al func28 rfl ntmps28 rfl (gG ?_);refine ze rfl (aZ rfl (fun b1=>?_));refine ze rfl (an (fun b2=>gG ?_));refine afv ?_;refine ze rfl (an (fun b3=>?_));refine aag ?_;refine bH [4,8,9,10,11,12,13,14,15,16] [4] (fun us H'=>∃(k:Nat),us=[.int .i64 (k:Int)]/\aF b3 (.cells (gJ n m k).cells 44 (0,0))::aF b2 (.cells aj.zero.cells 44 (0,0))::H=H'/\k<=6) (fun us=>match us with| .int _ i::_=>6-i.toNat|_=>0) ⟨0,rfl,rfl,om⟩ (fun w hw=>by rw[tS];exact SB w hw) ?_;rintro τ0 _ _ ⟨k,rfl,rfl,hk0⟩ _;refine gG ?_;refine yC ?_ ?_<;>intro h9 p9
 ·have hk:k<6:=om;have hpk:=BK (n:=n) (m:=m) k hk;refine gG ?_;refine zq (zf 38 rfl rfl) rfl (zq (aQ (sz:=5) (38+k*5) k rfl rfl underlying42 rfl rfl ago om) rfl (zq (zf (38+k*5) rfl rfl) rfl ?_));refine aaI ?_;exact acI
 obtain rfl:k=6:=om;refine gG ?_;refine Za ?_;refine aag ?_;exact zX () [_] results28 ⟨⟨_,rfl,ak rfl⟩,trivial⟩ rfl SB
theorem Mo{m:Int}:CT prog w0 (H) 10 [.agg (aH.mk n m).cells] (α:=Unit) (fun _=> .agg (aR.mk (gJ n m 6) ah.zero ⟨none,0,0⟩ ⟨none,0,0⟩).cells) (fun _=>H):=by
 refine al func10 rfl ntmps10 rfl (gG ?_);refine ze rfl (aZ rfl (fun b1=>?_));refine ze rfl (an (fun b2=>gG ?_));refine ze rfl (zc (JP) rfl (fun x4=>?_));refine aia ?_;refine aag ?_;exact zX () [_] results10 ⟨⟨_,rfl,ak rfl⟩,trivial⟩ rfl SB
end
section
def vm(a b:iB):Bool:=decide (a.n=b.n)&&(decide (a.hash=b.hash)&&(decide (a.batch=b.batch)&&decide (a.parts=b.parts)))
variable {W:aj} {w0:World} {H:List SA}
theorem yj{a b:iB}:vm a b=true↔a=b:=by
 obtain⟨n,h,t,p⟩:=a;obtain⟨n2,h2,t2,p2⟩:=b;simp[vm]
def dY(W:aj)(xs:List iB):aj:=xs.foldl (fun w x=>(jt w (bN x.batch).2).1) W
theorem G3{xs:List iB}{k:Nat}(hk:k<xs.length):dY W (xs.take (k+1))=(jt (dY W (xs.take k)) (bN xs[k].batch).2).1:=by
 unfold dY;rw[Xf hk,X0];rfl
theorem Cf(hg:ja W)(hsl: -4611686018427387904<=W.slot/\W.slot<=4611686018427387904){a:Option Addr}{c:Nat}{ls:List aJ}[hr:gy w0 H (.slice a ls.length c) 7 (ls.flatMap aJ.list)](hn:ls.length<=100):CT prog w0 H 83 [.agg W.cells,.slice a ls.length c] (α:=AC) (fun y=> .agg (cn.mk (jt W (ls.map aJ.abs)).1 ⟨y.a,(jt W (ls.map aJ.abs)).2.length,y.c⟩).cells) (fun y=>row (.slice y.a (jt W (ls.map aJ.abs)).2.length y.c) 41 5 ((jt W (ls.map aJ.abs)).2.flatMap ar.list)::H):=by
 obtain⟨s,f,⟨n1,m1⟩,v2,cs,rs⟩:=W;obtain⟨⟨k1,h1,e1⟩,-,-,-⟩:=hg;simp only at e1;subst e1;exact Lg h1 hsl hn
attribute [local irreducible] fH dS bN jt wB eV gZ cU
theorem uO{x y:ah}[hx:Rd w0 H x][hy:Rd w0 H y](hs:j0 x):CT prog w0 (H) 40 [.agg x.cells,.agg y.cells] (α:=Unit) (fun _=> .bool (vm x.abs y.abs)) (fun _=>H):=by
 refine al func40 rfl ntmps40 rfl (gG ?_);refine ze rfl (aZ rfl (fun b2=>?_));refine ze rfl (aZ rfl (fun b3=>gG ?_));refine yS 10 ?_ ?_<;>intro h10 p10<;>refine gG ?_
 ·refine ZJ ?_;refine yS 17 ?_ ?_<;>intro h17 p17<;>refine gG ?_
  ·refine ZF ?_;refine ZF ?_;refine ze rfl (zc (Dr (l:=x.batch.l) (l2:=y.batch.l) (by have:=hs.1;omega)) rfl (fun x22=>gG ?_));refine yS 24 ?_ ?_<;>intro h24 p24<;>refine gG ?_
   ·refine af4 ?_;refine gG ?_;refine af4 ?_;refine gG ?_;refine ze rfl (zc (ud (l:=x.parts.ls) (l2:=y.parts.ls) (by have:=hs.2.1;omega) hs.2.2) rfl (fun x29=>gG ?_));exact abX
   exact abX
  exact abX
 exact abX
theorem aR.head(f0:aj)(f1:ah)(f2 f3:Sl):(aR.mk f0 f1 f2 f3).cells=f0.cells++(f1.list++([Value.slice f2.a f2.n f2.c]++[Value.slice f3.a f3.n f3.c])).toArray:=by simp[aR.cells,aR.list,aj.cells]
theorem uX(ls:List ah)(k:Nat)(hk:k<ls.length):(ls.flatMap ah.list)[k*35+33]? =some (.slice ls[k].batch.a ls[k].batch.l.length ls[k].batch.c):=by
 rw[iL ah.list 35 ah.ae ls k 33 hk dc];have:=(inferInstance:aw ls[k].cells 33 (.slice ls[k].batch.a ls[k].batch.l.length ls[k].batch.c)).ok;simpa[ah.cells]using this
theorem l8:∀(xs:List iB),lL W->W.slot+xs.length<=200->lL (dY W xs)/\(dY W xs).slot=W.slot+xs.length:=by
 intro xs
 induction xs generalizing W with
 |nil=>intro h _;exact⟨h,by show W.slot=_;simp⟩
 |cons x xs ih=>
   intro h hs;simp only[Xq]at hs;have h1:=ih (W:=(jt W (bN x.batch).2).1) (Lj h om) (by rw[wF];omega);rw[wF]at h1;exact⟨h1.1,by show(dY _ xs).slot=_;rw[h1.2];simp only[Xq];omega⟩
theorem v8{u:ah}{vs:Sl}{sa:Option Addr}{sc:Nat}{ls:List ah}[rc:gy w0 H (.slice sa ls.length sc) 35 (ls.flatMap ah.list)](hrd:∀x∈ls,Rd w0 H x)(hsm:∀x∈ls,j0 x)(hW:lL W)(hsl:W.slot+ls.length<=200){m:Nat}(hm:m<=ls.length):CT prog w0 (H) 44 [.agg (aR.mk W u ⟨sa,ls.length,sc⟩ vs).cells,.int .i64 (m:Int)] (α:=Unit) (fun _=> .agg (dY W ((ls.map ah.abs).take m)).cells) (fun _=>H):=by
 have hls2:ls.length<=200:=by have:=hW.slot;omega
 refine al func44 rfl ntmps44 rfl (gG ?_);refine ze rfl (aZ rfl (fun b2=>?_));refine ze rfl (an (fun b4=>gG ?_));refine ze rfl (an (fun b5=>?_));refine aag ?_;refine bH [6,7,8,9,12,13,14,15,16,17,18,19,20,21,22,23,24,25,26,27,28,29,30,31] [6] (fun us H'=>∃(k:Nat),us=[.int .i64 (k:Int)]/\aF b5 (.cells (dY W ((ls.map ah.abs).take k)).cells 44 (0,0))::aF b2 (.cells (aR.mk W u ⟨sa,ls.length,sc⟩ vs).cells 54 (0,0))::aF b4 (.cells aj.zero.cells 44 (0,0))::H=H'/\k<=m) (fun us=>match us with| .int _ i::_=>m-i.toNat|_=>0) ⟨0,rfl,rfl,om⟩ (fun w hw=>(SB w hw:St w0 (aF b5 (.cells W.cells 44 (0,0))::aF b2 (.cells (aR.mk W u ⟨sa,ls.length,sc⟩ vs).cells 54 (0,0))::aF b4 (.cells aj.zero.cells 44 (0,0))::H) w)) ?_;rintro τ0 _ _ ⟨k,rfl,rfl,hk0⟩ _;refine gG ?_;refine yC ?_ ?_<;>intro h14 p14
 ·have hk:k<ls.length:=om;have hfk:=l8 (W:=W) ((ls.map ah.abs).take k) hW (by rw[Xj];simp;omega);have hlk:((ls.map ah.abs).take k).length=k:=by rw[Xj,WZ];omega
  rw[hlk]at hfk;have hrs:=G3 (W:=W) (xs:=(ls.map ah.abs)) (k:=k) abf;rw[show((ls.map ah.abs)[k]'abf).batch=ls[k].batch.l from by simp[ah.abs]]at hrs;refine gG ?_;refine Zp ?_;refine zq (bn rfl rfl om om) rfl (zq (cm rfl 35 (by rw[fy ah.list 35 ah.ae];omega)) rfl (zq (cE 35 (.slice _ _ _) rfl (uX ls k hk)) rfl ?_));have rdk:Rd w0 H ls[k]:=hrd _ (W1 hk);refine ze rfl (zc (pI (l:=ls[k].batch.l) agH) rfl (fun x24=>?_));refine aV (fun h24=>?_);refine gG ?_;refine ze rfl (zc (Cf hfk.1.ic ahH (ls:=x24.1.2) om) rfl (fun x29=>?_));rw[h24.1];refine ze rfl (an (fun b9=>?_));refine aag ?_;refine acR ?_;exact xl ⟨k+1,rfl,rfl,om⟩ (hH:=(fun w hw=>by rw[hrs];exact(SB w hw)))
 obtain rfl:k=m:=om;refine gG ?_;refine Za ?_;refine aag ?_;exact zX () [_] results44 ⟨⟨_,rfl,ak rfl⟩,trivial⟩ rfl SB
theorem mR{u:ah}{vs:Sl}{sa:Option Addr}{sc:Nat}{ls:List ah}[rc:gy w0 H (.slice sa ls.length sc) 35 (ls.flatMap ah.list)](hrd:∀x∈ls,Rd w0 H x)(hsm:∀x∈ls,j0 x)(hW:lL W)(hsl:W.slot+ls.length<=200):CT prog w0 (H) 39 [.agg (aR.mk W u ⟨sa,ls.length,sc⟩ vs).cells] (α:=Unit) (fun _=> .agg (dY W (ls.map ah.abs)).cells) (fun _=>H):=by
 refine al func39 rfl ntmps39 rfl (gG ?_);refine ze rfl (aZ rfl (fun b1=>?_));refine ze rfl (an (fun b2=>gG ?_));refine Zp ?_;refine ze rfl (zc (v8 (W:=W) (u:=u) (vs:=vs) (fun x hx=>by have:=hrd x hx;infer_instance) hsm hW hsl (m:=ls.length) (W8 _)) rfl (fun x7=>?_));rw[W7 sm];refine aag ?_;exact zX () [_] results39 ⟨⟨_,rfl,ak rfl⟩,trivial⟩ rfl SB
end
section
theorem ar.dk(x y:ar):x=y↔x.aG=y.aG/\x.seq=y.seq/\x.slot=y.slot/\x.res=y.res:=adW
instance N8:DecidableEq ar:=fun x y=>decidable_of_iff _ (ar.dk x y).symm
theorem vu{P:Program}{t:TypeId}{x y:Value}{b:Bool}[h:M6 P t x y b](d:Nat)(w:World):(Op.equalIn (d+2) t x y).run P w= .ok b w:=h.eq d w
theorem LY{x y:cI}(d:Nat)(w:World):(Op.equalIn (d+3) 39 (.agg x.cells) (.agg y.cells)).run prog w= .ok (decide (x=y)) w:=by
 rw[run_equalIn_struct w (d+2) 39 _ _ kr kr];simp only[Program.fieldsOf,underlying39];simp only[Op.eqFields,ne_eq,Sem.run_bind,Sem.run_ite,Sem.run_pure,Result.andThen_ok,qy,rV,vu];rw[show decide (x=y)=(decide (x.oK=y.oK)&&(decide (x.n=y.n)&&true))from by rw[W5];simp[cI.dk]]
 try simp only[String.reduceEq,not_false_eq_true,if_true,Result.andThen_ok]
 cases decide (x.oK=y.oK)<;>cases decide (x.n=y.n)<;>rfl
instance J4{x y:ar}:KA prog 41 (.agg x.cells) (.agg y.cells) (decide (x=y)):=⟨fun d w=>by
 rw[run_equalIn_struct w (d+3) 41 _ _ kr kr];simp only[Program.fieldsOf,underlying41];simp only[Op.eqFields,ne_eq,Sem.run_bind,Sem.run_ite,Sem.run_pure,Result.andThen_ok,qy,rV,AO,LY];rw[show decide (x=y)=(decide (x.aG=y.aG)&&(decide (x.seq=y.seq)&&(decide (x.slot=y.slot)&&(decide (x.res=y.res)&&true))))from by rw[W5];simp[ar.dk]]
 try simp only[String.reduceEq,not_false_eq_true,if_true,Result.andThen_ok]
 cases decide (x.aG=y.aG)<;>cases decide (x.seq=y.seq)<;>cases decide (x.slot=y.slot)<;>cases decide (x.res=y.res)<;>rfl⟩
theorem qx{w0:World}{H:List SA}{a a2:Option Addr}{c c2:Nat}{ls ms:List ar}[r1:gy w0 H (.slice a ls.length c) 5 (ls.flatMap ar.list)][r2:gy w0 H (.slice a2 ms.length c2) 5 (ms.flatMap ar.list)](hn:ls.length<=100000):CT prog w0 (H) 37 [.slice a ls.length c,.slice a2 ms.length c2] (α:=Unit) (fun _=> .bool (decide (ls=ms))) (fun _=>H):=by
 refine al func37 rfl ntmps37 rfl (gG ?_);refine yC ?_ ?_<;>intro h10 p10
 ·refine gG ?_;exact zX () [_] results37 ⟨rfl,trivial⟩ (congrArg Value.bool ag0) SB
 have hlm:ls.length=ms.length:=om;refine gG ?_;refine bH [4,5,11,12,13,14,15,16,17,18,19,20,21,22,23,24,25] [5] (fun us H'=>∃(k:Nat),us=[.int .i64 (k:Int)]/\H=H'/\k<=ls.length/\(ls.take k=ms.take k)) (fun us=>match us with| .int _ i::_=>ls.length-i.toNat|_=>0) ⟨0,rfl,rfl,om,sm⟩ SB ?_;rintro τ0 _ _ ⟨k,rfl,rfl,hk0,hq⟩ _;refine gG ?_;refine yC ?_ ?_<;>intro h14 p14
 ·have hk:k<ls.length:=om;have hkm:k<ms.length:=om;refine gG ?_;refine dw H [(0,true),(1,true),(2,true),(3,true),(4,true),(5,true),(6,true),(7,true),(8,true)] (fun hns0=>?_);refine zd hns0 rfl (zm (.slice _ _ _) rfl) rfl (zd hns0 rfl (zm (.int .i64 _) rfl) rfl (zd hns0 rfl (bn rfl rfl om om) rfl (zd hns0 rfl (bI (ek 5 ls[k].list rfl (de _ 5 ar.ae ls k hk) (ar.ae _) dc) (show Value.agg ls[k].list.toArray=Value.agg ls[k].cells from rfl)) rfl (zd hns0 rfl (zm (.slice _ _ _) rfl) rfl (zd hns0 rfl (zm (.int .i64 _) rfl) rfl (zd hns0 rfl (bn rfl rfl om om) rfl (zd hns0 rfl (bI (ek 5 ms[k].list rfl (de _ 5 ar.ae ms k hkm) (ar.ae _) dc) (show Value.agg ms[k].list.toArray=Value.agg ms[k].cells from rfl)) rfl ?_)))))));refine zd hns0 rfl (mi rfl rfl kr) rfl ?_;refine gA ?_;refine yC ?_ ?_<;>intro h25 p25
  ·refine gG ?_;refine Zd ?_;exact zX () [_] results37 ⟨rfl,trivial⟩ (congrArg Value.bool (by rw[decide_eq_false (by intro h;subst h;simp at p25)])) SB
  have he:ls[k]=ms[k]:=by simpa using p25
  have hq2:ls.take (k+1)=ms.take (k+1):=by rw[YA,YA,hq,WW hk,WW hkm,he]
  refine gA ?_;exact xl ⟨k+1,rfl,rfl,om,hq2⟩
 have hkn:k=ls.length:=om;refine gG ?_;refine Za ?_;have hlm2:ls=ms:=by rw[hkn,XE,hlm,XE]at hq;exact hq
 exact zX () [_] results37 ⟨rfl,trivial⟩ (congrArg Value.bool (by rw[decide_eq_true hlm2])) SB
end
section
variable {α:Type} {n:Nat} {P:Program}
theorem xL(f:α->List Value)(m:Nat)(hf:∀x,(f x).length=m)(v:Vector α n)(i:Nat)(hi:i<n):dh (bJ f v).toArray (i*m) m (f v[i]).toArray:=⟨by
 have h:=pC f m hf v i hi;have hl:=dO f m hf v;have e:bJ f v=(bJ f v).take (i*m)++(f v[i]++(bJ f v).drop (i*m+m)):=by
   rw[←h,←X2,XC,XC]
 have hle:i*m+m<=n*m:=by have:=Xp m (show i+1<=n from hi);rw[Nat.succ_mul]at this;exact this
 have:=fP ((bJ f v).take (i*m)) (f v[i]) ((bJ f v).drop (i*m+m)) (o:=i*m) (n:=m) (by rw[Xj,hl];omega) (hf _);rw[←e]at this;exact this⟩
theorem CS{e m D:Nat}[DecidableEq α](f:α->List Value)(hf:∀x,(f x).length=m)[ht:oI P e m](heq:∀(a b:α)(w:World),(Op.equalIn D e (.agg (f a).toArray) (.agg (f b).toArray)).run P w= .ok (decide (a=b)) w)(x y:Vector α n)(w:World):∀is:List Nat,(∀j∈is,j<n)->
   (Op.eqItems D e m (bJ f x).toArray (bJ f y).toArray is).run P w= .ok (decide (∀j∈is,x[j]? =y[j]?)) w
 |[],_=>by simp[Op.eqItems]
 |j::is,hj=>by
   have hjn:=hj j sm;have cx:=xL f m hf x j hjn;have cy:=xL f m hf y j hjn;simp only[Op.eqItems,Sem.run_bind,rV,Result.andThen_ok,heq];by_cases he:x[j]=y[j]
   · simp only[he,decide_true,Bool.not_true,Xm,if_false]
     rw[CS f hf heq x y w is (fun i hi=>hj i (by simp[hi]))]
     congr 1
     simp[hjn,he]
   · simp[he,hjn]
theorem I6{t e m D:Nat}[DecidableEq α](f:α->List Value)(hf:∀x,(f x).length=m)[ht:oI P e m](hu:P.underlying t=some (.array n e))(heq:∀(a b:α)(w:World),(Op.equalIn D e (.agg (f a).toArray) (.agg (f b).toArray)).run P w= .ok (decide (a=b)) w)(x y:Vector α n)(w:World):(Op.equalIn (D+1) t (.agg (bJ f x).toArray) (.agg (bJ f y).toArray)).run P w= .ok (decide (x=y)) w:=by
 obtain⟨dd,ii,hd1,hd2,hi,hs⟩:=ht.spec;have hc:P.cellsOf e=m:=by simp[Program.cellsOf,hi,hs]
 rw[run_equalIn_array w D _ _ hu hi,hc,CS f hf heq x y w (List.range n) (fun j hj=>YK.1 hj)]
 congr 1
 rw[decide_eq_decide]
 constructor
 · intro hh
   apply Yv;intro i hi;have:=hh i (YK.2 hi);simpa[hi]using this
 · rintro rfl j _;rfl
instance Ov:DecidableEq ax:=fun x y=>decidable_of_iff _ (ax.dk x y).symm
theorem Nn{x y:ax}(d:Nat)(w:World):(Op.equalIn (d+5) 36 (.agg x.cells) (.agg y.cells)).run prog w= .ok (decide (x=y)) w:=by
 rw[run_equalIn_struct w (d+4) 36 _ _ kr kr];simp only[Program.fieldsOf,underlying36];simp only[Op.eqFields,ne_eq,Sem.run_bind,Sem.run_ite,Sem.run_pure,Result.andThen_ok,qy,rV,vu];rw[show decide (x=y)=(decide (x.there=y.there)&&(decide (x.n=y.n)&&true))from by rw[W5];simp[ax.dk]]
 try simp only[String.reduceEq,not_false_eq_true,if_true,Result.andThen_ok]
 cases decide (x.there=y.there)<;>cases decide (x.n=y.n)<;>rfl
instance Pa:DecidableEq aH:=fun x y=>decidable_of_iff _ (aH.dk x y).symm
theorem Nl{x y:aH}(d:Nat)(w:World):(Op.equalIn (d+6) 33 (.agg x.cells) (.agg y.cells)).run prog w= .ok (decide (x=y)) w:=by
 rw[run_equalIn_struct w (d+5) 33 _ _ kr kr];simp only[Program.fieldsOf,underlying33];simp only[Op.eqFields,ne_eq,Sem.run_bind,Sem.run_ite,Sem.run_pure,Result.andThen_ok,qy,rV,vu];rw[show decide (x=y)=(decide (x.num=y.num)&&(decide (x.mask=y.mask)&&true))from by rw[W5];simp[aH.dk]]
 try simp only[String.reduceEq,not_false_eq_true,if_true,Result.andThen_ok]
 cases decide (x.num=y.num)<;>cases decide (x.mask=y.mask)<;>rfl
theorem Ly{x y:ar}(d:Nat)(w:World):(Op.equalIn (d+5) 41 (.agg x.cells) (.agg y.cells)).run prog w= .ok (decide (x=y)) w:=J4.eq (d+1) w
theorem K6{x y:Vector ax 16}(d:Nat)(w:World):(Op.equalIn (d+6) 37 (.agg (bJ ax.list x).toArray) (.agg (bJ ax.list y).toArray)).run prog w= .ok (decide (x=y)) w:=
 I6 (D:=d+5) ax.list ax.ae underlying37 (fun a b w=>Nn d w) x y w
theorem H3{x y:Vector ar 6}(d:Nat)(w:World):(Op.equalIn (d+6) 42 (.agg (bJ ar.list x).toArray) (.agg (bJ ar.list y).toArray)).run prog w= .ok (decide (x=y)) w:=
 I6 (D:=d+5) ar.list ar.ae underlying42 (fun a b w=>Ly d w) x y w
theorem aj.dk(x y:aj):x=y↔x.slot=y.slot/\x.first=y.first/\x.view=y.view/\x.fM=y.fM/\x.cs=y.cs/\x.last=y.last:=adW
instance Oa:DecidableEq aj:=fun x y=>decidable_of_iff _ (aj.dk x y).symm
theorem Pj{t:TypeId}{x y:Value}{b:Bool}[h:M6 P t x y b](d:Nat)(w:World):(Op.equalIn (d+6) t x y).run P w= .ok b w:=h.eq (d+4) w
theorem LI{x y:aj}(d:Nat)(w:World):(Op.equalIn (d+7) 44 (.agg x.cells) (.agg y.cells)).run prog w= .ok (decide (x=y)) w:=by
 rw[run_equalIn_struct w (d+6) 44 _ _ kr kr];simp only[Program.fieldsOf,underlying44];simp only[Op.eqFields,ne_eq,Sem.run_bind,Sem.run_ite,Sem.run_pure,Result.andThen_ok,qy,rV,Pj,Nl,K6,H3];rw[show decide (x=y)=(decide (x.slot=y.slot)&&(decide (x.first=y.first)&&(decide (x.view=y.view)&&(decide (x.fM=y.fM)&&(decide (x.cs=y.cs)&&(decide (x.last=y.last)&&true))))))from by rw[W5];simp[aj.dk]]
 try simp only[String.reduceEq,not_false_eq_true,if_true,Result.andThen_ok]
 cases decide (x.slot=y.slot)<;>cases decide (x.first=y.first)<;>cases decide (x.view=y.view)<;>cases decide (x.fM=y.fM)<;>cases decide (x.cs=y.cs)<;>cases decide (x.last=y.last)<;>rfl
theorem nV{w0:World}{H:List SA}{σ:Env}{d:Option Nat}{ty:TypeId}{pos:String}{aft:Array Edge}{g:Option (Nat×Bool)}{x y:Operand}{t':TypeId}{X Y:aj}(hx:ev σ x= .agg X.cells)(hy:ev σ y= .agg Y.cells):Qt prog w0 H σ ⟨d,.binOp .neq 44 x y t',ty,pos,aft,g⟩ (.bool (!decide (X=Y))):=fun w _=>by
 have hg:Tryz.prog.eqGuardType Tryz.prog.depth 44=false:=kr;have h2:(binOp .neq 44 (.agg X.cells) (.agg Y.cells))=(do pure (.bool (!(←Op.equal 44 (.agg X.cells) (.agg Y.cells))))):=by rfl
 simp only[execOp,hx,hy,Sem.run_bind,run_eqGuard_agg w .neq 44 x y _ _ hg,h2,Result.andThen_ok,show(Op.equal 44 (.agg X.cells) (.agg Y.cells)).run prog w= .ok (decide (X=Y)) w from LI 9993 w,Sem.run_pure]
end
end Go.Proofs.YtmbfimckmfnnjaaGreatDoor
