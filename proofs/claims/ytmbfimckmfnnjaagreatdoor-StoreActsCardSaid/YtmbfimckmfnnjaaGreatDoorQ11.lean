/- Steps of the proof of a law. -/
import Derived.Test.YtmbfimckmfnnjaaGreatDoorQ10
set_option maxRecDepth 100000
set_option maxHeartbeats 1000000
set_option linter.unusedSimpArgs false
set_option linter.unusedVariables false
section
namespace Go.Sx
open Go.RowKit
section
variable {P:Program} {n:Fr} {w0:World} {σ:Env} {H:List SA} {d:Option Nat} {ty:TypeId} {pos:String} {aft:Array Edge} {g:Option (Nat×Bool)} {K:Value->List SA->Prop}
theorem ub{f:FuncId}{caps:List Operand}{args:List Value}(hc:caps.map (ev σ)=args):Qt P w0 H σ ⟨d,.makeFunc (.func f) #[] caps.toArray,ty,pos,aft,g⟩ (.func (.func f) #[] args.toArray):=fun w _=>by
 simp[execOp,Instr.makeFunc,hc]
theorem uL{f:FuncId}{x:Operand}{args:List Operand}{ats:Array TypeId}{argv caps:List Value}{α:Type}{val:α->Value}{H':α->List SA}[hf:bk P f](hc:CT P w0 H f (argv++caps) val H')(hx:ev σ x= .func (.func f) #[] caps.toArray)(ha:args.map (ev σ)=argv)(h:∀x,K (val x) (H' x)):Ef P w0 H σ ⟨d,.call ⟨.value x,args.toArray,ats⟩,ty,pos,aft,g⟩ K:=fun w hw=>by
 have hok:=hf.ok
 split at hok
 · rename_i fn hfn
   simp only[Xz,YO,beq_eq_false_iff_ne,ne_eq]at hok;obtain⟨h1,h2⟩:=hok;obtain⟨bd,hbd⟩:=XH.1 h2;have:(execOp (ev σ) ⟨d,.call ⟨.value x,args.toArray,ats⟩,ty,pos,aft,g⟩).run P w= .ok (.enter f (argv++caps).toArray) w:=by
     subst ha;simp[execOp,resolve,invoke,hx,Deferred.ofValue,callFunc,hfn,h1,hbd]
   rw[this];refine(hc w hw).mono fun e w' ⟨x,he,hs⟩=>⟨val x,he,H' x,h x,hs⟩
 · cases hok
end
instance ju.append{w0:World}{H:List SA}{xs ys:List BS}[h:ju w0 H xs][h2:ju w0 H ys]:ju w0 H (xs++ys):=⟨fun z hz w hw=>by
 rcases Xc.1 hz with hz|hz
 · exact h.rd z hz w hw
 · exact h2.rd z hz w hw⟩
section
variable {κ ν:Type} [DecidableEq κ] {P:Program} {K:TypeId} {enc:κ->Value} {ev:ν->Value}
variable {w0:World} {σ:Env} {H:List SA} {d:Option Nat} {ty:TypeId} {pos:String} {aft:Array Edge} {g:Option (Nat×Bool)}
theorem sW:∀(es:List (iK κ ν))(k:κ)(v:ν)(c:Nat),eZ es k=true->(fZ es k v c).map (·.k)=es.map (·.k)/\(fZ es k v c).map (·.b)=es.map (·.b)
 |[],_,_,_,h=>by simp[eZ,eu]at h
 |e::es,k,v,c,h=>by
   by_cases hk:k=e.k
   · simp[fZ,hk]
   · have h':eZ es k=true:=by simpa[eZ,eu,hk]using h
     obtain⟨h1,h2⟩:=sW es k v c h';simp[fZ,hk,h1,h2]
theorem Hb(es:List (iK κ ν))(k key:κ)(v:ν)(c:Nat):eu (fZ es k v c) key=if key=k then some v else eu es key:=by
 induction es with
 |nil=>by_cases h:key=k<;>simp[fZ,eu,h]
 |cons e es ih=>
   by_cases hk:k=e.k
   · by_cases h:key=k
     · subst h;simp[fZ,eu,hk]
     · have:¬key=e.k:=fun h'=>h (h'.trans hk.symm)
       simp[fZ,eu,hk,h,this]
   · simp only[fZ,hk,if_false]
     by_cases h2:key=e.k
     · have:¬key=k:=fun h'=>hk (h'.symm.trans h2)
       simp[eu,h2,this];intro h3;exact absurd (h2.trans h3) this|>fun h=>h
     · have e1:∀L:List (iK κ ν),eu (e::L) key=eu L key:=fun L=>by simp[eu,h2]
       rw[e1,e1,ih]
end
end Go.Sx
end
namespace Go.Proofs.YtmbfimckmfnnjaaGreatDoor
open Go.RowKit Go.Sx Go.Proofs.Tryz
section
theorem sr{w0:World}{H:List SA}{num:Int}{mk:Nat}(hmk:mk<65536):CT prog w0 (H) 229 [.agg (aH.mk num (mk:Int)).cells] (α:=Unit) (fun _=> .bool (dC num mk)) (fun _=>H):=by
 refine al func229 rfl ntmps229 rfl (gG ?_);refine ze rfl (aZ rfl (fun b1=>gG ?_));refine ze rfl (zc (D7 (num:=num) hmk) rfl (fun x5=>?_));have hones:=ES hmk;refine gG ?_;refine yS 10 ?_ ?_<;>intro h10 p10<;>refine gG ?_
 ·refine yS 15 ?_ ?_<;>intro h15 p15<;>refine gG ?_
  ·refine yS 19 ?_ ?_<;>intro h19 p19<;>refine gG ?_
   ·refine acJ ?_;refine aaz ?_;rw[W5];simp only[dC,decide_eq_true_eq,Xm,false_iff];omega
   refine acJ ?_;refine aaz ?_;rw[W5];simp only[dC,decide_eq_true_eq,Xm,false_iff];omega
  refine acJ ?_;refine aaz ?_;rw[W5];simp only[dC,decide_eq_true_eq,Xm,false_iff];omega
 refine acJ ?_;refine aaz ?_;rw[W5];simp only[dC,decide_eq_true_eq,Xm,false_iff];omega
theorem AV{w0:World}{H:List SA}{a a2:Option Addr}{l l2:List UInt8}{c c2:Nat}[hr:dT w0 H (.slice a l.length c) l][hr2:dT w0 H (.slice a2 l2.length c2) l2](hs:l.length+l2.length<=4294967296):CT prog w0 (H) 167 [.slice a l.length c,.slice a2 l2.length c2] (α:=AC) (fun y=> .slice y.a (l++l2).length y.c) (fun y=>row (.slice y.a (l++l2).length y.c) 5 1 (aE (l++l2))::H):=by
 refine al func167 rfl ntmps167 rfl (gG ?_);refine ze rfl (bR (sv:= .slice _ _ _) (xv:= .slice _ _ _) rfl rfl so rfl (fun a8 c8=>?_));rw[Xh];refine gG ?_;refine ze rfl (bR (sv:= .slice _ _ _) (xv:= .slice _ _ _) rfl rfl om rfl (fun a11 c11=>gG ?_));exact zX ⟨a11,c11⟩ [_] results167 ⟨rfl,trivial⟩ rfl SB
end
section
structure dm where
 kind:Int
 view:Int
 dZ:Int
 slot:Int
 hash:Vector UInt8 32
 batch:List UInt8
 cert:List (List UInt8)
def af.abs(v:af):dm:=⟨v.kind,v.view,v.dZ,v.slot,v.hash,v.batch.l,v.cert.ls.map BS.l⟩
def jb(n b:Int):Bool:=decide (0<=n)&&decide (n<=b)
def df(v:dm):Bool:=
 decide (1<=v.kind)&&decide (v.kind<=3)&&jb v.view 60&&jb v.dZ 40&&jb v.slot 60&&
 (decide (v.kind≠1)||(decide (v.slot=0)&&decide (v.hash=zeroV 32)&&decide (v.batch=[])))&&(decide (v.kind=3)||decide (v.cert=[]))
theorem aD(v:dm):df v=true↔1<=v.kind/\v.kind<=3/\(0<=v.view/\v.view<=60)/\(0<=v.dZ/\v.dZ<=40)/\(0<=v.slot/\v.slot<=60)/\(v.kind=1->v.slot=0/\v.hash=zeroV 32/\v.batch=[])/\(v.kind≠3->v.cert=[]):=by
 simp only[df,jb,Xz,Bool.or_eq_true,decide_eq_true_eq]
 constructor
 · rintro⟨⟨⟨⟨⟨⟨h1,h2⟩,h3⟩,h4⟩,h5⟩,h6⟩,h7⟩
   exact⟨h1,h2,h3,h4,h5,fun h=>by rcases h6 with h6|h6;exact absurd h h6;exact⟨h6.1.1,h6.1.2,h6.2⟩,fun h=>h7.resolve_left h⟩
 · rintro⟨h1,h2,h3,h4,h5,h6,h7⟩
   refine⟨⟨⟨⟨⟨⟨h1,h2⟩,h3⟩,h4⟩,h5⟩,?_⟩,?_⟩
   · by_cases h:v.kind=1
     · exact .inr ⟨⟨(h6 h).1,(h6 h).2.1⟩,(h6 h).2.2⟩
     · exact .inl h
   · by_cases h:v.kind=3
     · exact .inl h
     · exact .inr (h7 h)
theorem within_iff(n b:Int):jb n b=true↔0<=n/\n<=b:=by simp[jb]
theorem aL(n b:Int):jb n b=false↔¬(0<=n/\n<=b):=by rw[←within_iff];simp
def LR(v:dm)(k:Nat):Int:=match k with|0=>v.view|1=>v.dZ|_=>v.slot
def jH(v:dm):Nat->List UInt8
 |0=>fixed (u64 v.kind).toNat 1
 |k+1=>jH v k++fixed (u64 (LR v k)).toNat 2
theorem eT(v:dm):∀k,(jH v k).length=1+2*k
 |0=>by simp[jH,aO]
 |k+1=>by simp[jH,aO,eT v k];omega
def head(v:dm):List UInt8:=jH v 3++v.hash.toList++aY v.batch++packed v.cert.length
def told(v:dm):List UInt8:=head v++texts v.cert
theorem ua(v:dm)(hb:v.batch.length<=100000)(hc:v.cert.length<=100000):(head v).length<=100100:=by
 have h1:=bA v.batch om;have h2:=bw v.cert.length om;simp[head,eT];omega
def cU(v:dm):List UInt8×Int:=
 if 16<v.cert.length then([],4)else if 65536<v.batch.length+iz v.cert then([],4)
 else if 65536<(told v).length then([],4)else if df v then(told v,0)else([],15)
theorem vj(l:List UInt8)(x:Int):fF l x 2=l++fixed x.toNat 2:=rfl
theorem Ep(l:List UInt8)(x:Int):fF l x 1=l++fixed x.toNat 1:=rfl
end
section
variable {w0:World} {H:List SA}
theorem wX{n b:Int}:CT prog w0 (H) 220 [.int .i64 n,.int .i64 b] (α:=Unit) (fun _=> .bool (jb n b)) (fun _=>H):=by
 refine al func220 rfl ntmps220 rfl (gG ?_);refine yS 7 ?_ ?_<;>intro h7 p7<;>refine gG ?_
 ·exact zX () [.bool (jb n b)] results220 ⟨by refine congrArg Value.bool ?_;first|(simp_all [jb];done)|(simp_all [jb];omega),trivial⟩ rfl SB
 exact zX () [.bool (jb n b)] results220 ⟨by refine congrArg Value.bool ?_;first|(simp_all [jb];done)|(simp_all [jb];omega),trivial⟩ rfl SB
theorem BM{v:af}:CT prog w0 (H) 132 [.agg v.cells] (α:=Unit) (fun _=> .bool (df v.abs)) (fun _=>H):=by
 refine al func132 rfl ntmps132 rfl (gG ?_);refine ze rfl (aZ rfl (fun b1=>gG ?_));refine yS 6 ?_ ?_<;>intro h6 p6<;>refine gG ?_
 ·refine Zc ?_;refine aaP ?_;refine aaz ?_;exact aaj
 refine yS 11 ?_ ?_<;>intro h11 p11<;>refine gG ?_
 ·refine Zc ?_;refine aaP ?_;refine aaz ?_;exact aaj
 refine ze rfl (zc (wX) rfl (fun x14=>gG ?_));refine yS 17 ?_ ?_<;>intro h17 p17<;>refine gG ?_
 ·refine Zc ?_;refine aaP ?_;refine aaz ?_;exact aaj
 refine ze rfl (zc (wX) rfl (fun x20=>gG ?_));refine yS 23 ?_ ?_<;>intro h23 p23<;>refine gG ?_
 ·refine Zc ?_;refine aaP ?_;refine aaz ?_;exact aaj
 refine ze rfl (zc (wX) rfl (fun x26=>gG ?_));refine yC ?_ ?_<;>intro h28 p28<;>refine gG ?_
 ·refine aaP ?_;refine aaz ?_;exact aaj
 refine yS 32 ?_ ?_<;>intro h32 p32<;>refine gG ?_
 ·refine yS 36 ?_ ?_<;>intro h36 p36<;>refine gG ?_
  ·refine Zc ?_;refine aaP ?_;refine aaz ?_;exact aaj
  refine acD ?_;refine gG ?_;refine ZQ ?_;refine yS 42 ?_ ?_<;>intro h42 p42<;>refine gG ?_
  ·refine Zc ?_;refine aaP ?_;refine aaz ?_;exact aaj
  refine Zu ?_;refine yC ?_ ?_<;>intro h48 p48<;>refine gG ?_
  ·refine aaP ?_;refine aaz ?_;exact aaj
  refine yS 52 ?_ ?_<;>intro h52 p52<;>refine gG ?_
  ·refine aaP ?_;refine aaz ?_;exact aaj
  refine Zj ?_;refine aaP ?_;refine aaz ?_;exact aaj
 refine Zi ?_;refine yS 52 ?_ ?_<;>intro h52 p52<;>refine gG ?_
 ·refine aaP ?_;refine aaz ?_;exact aaj
 refine Zj ?_;refine aaP ?_;refine aaz ?_;exact aaj
theorem LH{v:af}[rb:dT w0 H (.slice v.batch.a v.batch.l.length v.batch.c) v.batch.l][rc:gy w0 H (.slice v.cert.a v.cert.ls.length v.cert.c) 1 (v.cert.ls.map BS.val)][re:ju w0 H v.cert.ls](hb:v.batch.l.length<=65536)(hc:v.cert.ls.length<=16)(he:∀x∈v.cert.ls,x.l.length<=65536):CT prog w0 (H) 154 [.agg v.cells] (α:=AC) (fun y=> .slice y.a (told v.abs).length y.c) (fun y=>row (.slice y.a (told v.abs).length y.c) 5 1 (aE (told v.abs))::H):=by
 refine al func154 rfl ntmps154 rfl (gG ?_);refine ze rfl (aZ rfl (fun b1=>gG ?_));refine aa4 ?_;refine ze rfl (zc (eK (a:=none) (l:=[]) (c:=0) sm (iS _).1) rfl (fun x11=>?_));rw[Ep,Xh,show fixed (u64 v.kind).toNat 1=jH v.abs 0 from rfl];refine gG ?_;refine zq (ck #[(.int .i64 _),(.int .i64 _),(.int .i64 _)] underlying321 rfl rfl rfl) rfl ?_;refine gG ?_;refine bH [3,5,19,20,21,22,23,24,25,26] [19,3] (fun vs H'=>∃(k:Nat)(a:Option Addr)(c:Nat),vs=[.int .i64 (k:Int),.slice a (jH v.abs k).length c]/\H'=row (.slice a (jH v.abs k).length c) 5 1 (aE (jH v.abs k))::aF b1 (.cells v.cells 57 (0,0))::H/\k<=3) (fun vs=>match vs with| .int _ i::_=>3-i.toNat|_=>0) ⟨0,x11.a,x11.c,rfl,rfl,om⟩ SB ?_;rintro τ0 _ _ ⟨k,a1,c1,rfl,rfl,hk0⟩ _;refine gG ?_;refine yC ?_ ?_<;>intro h20 p20
 ·have hk:k<3:=om;refine gG ?_;refine zq (dq (.int .i64 (LR v.abs k)) rfl rfl underlying321 om om (by rcases(by omega:k=0∨k=1∨k=2)with rfl|rfl|rfl<;>rfl)) rfl ?_;refine gG ?_;refine aa4 ?_;refine ze rfl (zc (eK (by rw[eT];omega) (iS _).1) rfl (fun x25=>?_));rw[vj,show jH v.abs k++fixed (u64 (LR v.abs k)).toNat 2=jH v.abs (k+1)from rfl];refine gA ?_;refine bW _ zA (⟨k+1,x25.a,x25.c,rfl,rfl,om⟩) (by show 3-(k+1:Int).toNat<3-(k:Int).toNat;omega) (SB)
 obtain rfl:k=3:=om;refine gG ?_;refine Za ?_;refine dw (aF b1 (.cells v.cells 57 (0,0))::H) [(0,true),(1,true),(2,true),(4,true),(5,true),(3,false),(6,false),(7,true)] (fun hns0=>?_);refine zd hns0 rfl (zm (.slice _ _ _) rfl) rfl (zd hns0 rfl (zf 4 rfl rfl) rfl (zd hns0 rfl (rf rfl underlying46 rfl rfl) rfl (zd hns0 rfl (zf 36 rfl rfl) rfl ?_)));refine gA ?_;refine cX rfl rfl (bR (sv:= .slice _ _ _) (xv:= .slice _ _ _) (hn:=dT.hash v.hash inferInstance inferInstance dc) rfl rfl (by simp[eT]) rfl (fun a30 c30=>⟨SB,?_⟩));refine cX rfl rfl (zc (gW (by simp[eT]) om) rfl (fun x33=>⟨SB,?_⟩));rw[show jH v.abs 3++v.hash.toList++packed v.batch.l.length++v.batch.l=jH v.abs 3++v.hash.toList++aY v.abs.batch from by simp[aY,af.abs]];refine gA ?_;refine Zj ?_;refine acQ ?_;have hh:(jH v.abs 3++v.hash.toList++aY v.abs.batch).length<=100000:=by
  have:=bA v.abs.batch (by show v.batch.l.length<_;omega);have:v.abs.batch.length=v.batch.l.length:=rfl;simp[eT];omega
 refine ze rfl (zc (kj (by have:=hh;omega) om om) rfl (fun x39=>?_));rw[show jH v.abs 3++v.hash.toList++aY v.abs.batch++packed (v.cert.ls.length:Int).toNat=head v.abs from by simp[head,af.abs]];refine gG ?_;refine Zj ?_;refine bH [3,7,43,44,45,46,47,48,49,50] [43,3] (fun vs H'=>∃(k:Nat)(a:Option Addr)(c:Nat),vs=[.int .i64 (k:Int),.slice a (head v.abs++texts ((v.cert.ls.map BS.l).take k)).length c]/\H'=row (.slice a (head v.abs++texts ((v.cert.ls.map BS.l).take k)).length c) 5 1 (aE (head v.abs++texts ((v.cert.ls.map BS.l).take k)))::aF b1 (.cells v.cells 57 (0,0))::H/\k<=v.cert.ls.length) (fun vs=>match vs with| .int _ i::_=>v.cert.ls.length-i.toNat|_=>0) ⟨0,x39.a,x39.c,by rw[XD,show texts []=[]from rfl,Xn];rfl,by rw[XD,show texts []=[]from rfl,Xn],om⟩ SB ?_;rintro τ1 _ _ ⟨k,a2,c2,rfl,rfl,hk0⟩ _;refine gG ?_;refine yC ?_ ?_<;>intro h44 p44
 ·have hk:k<v.cert.ls.length:=om;have hk':(k:Int)<v.cert.ls.length:=om;refine gG ?_;refine ZU ?_;have hmem:v.cert.ls[k]∈v.cert.ls:=W1 hk;have:dT w0 H (.slice v.cert.ls[k].a v.cert.ls[k].l.length v.cert.ls[k].c) v.cert.ls[k].l:=re.get hmem;have hh2:(head v.abs++texts ((v.cert.ls.map BS.l).take k)).length<=2000000:=by
   have h1:=ua v.abs (by show v.batch.l.length<=_;omega) (by show(v.cert.ls.map BS.l).length<=_;simp;omega);have h2:=jA 65536 ((v.cert.ls.map BS.l).take k) (fun x hx=>by obtain⟨y,hy,rfl⟩:=Xd.1 (Yd hx);exact he y hy) dc;have h3:((v.cert.ls.map BS.l).take k).length<=16:=so;have h4:=Xp (10+65536) h3;rw[WX];omega
  refine ze rfl (zc (gW (by have:=hh2;omega) (by have:=he _ hmem;omega)) rfl (fun x49=>?_));rw[show head v.abs++texts ((v.cert.ls.map BS.l).take k)++packed v.cert.ls[k].l.length++v.cert.ls[k].l=head v.abs++texts ((v.cert.ls.map BS.l).take (k+1))from by rw[fR _ _ abf,qM];simp[aY]];refine gA ?_;refine bW _ zA (⟨k+1,x49.a,x49.c,rfl,rfl,om⟩) acr (SB)
 have et:(v.cert.ls.map BS.l).take k=v.abs.cert:=W7 so;simp only[et];refine gG ?_;refine Za ?_;rw[show head v.abs++texts v.abs.cert=told v.abs from rfl];exact zX ⟨a2,c2⟩ [_] results154 ⟨rfl,trivial⟩ rfl SB
end
end Go.Proofs.YtmbfimckmfnnjaaGreatDoor
