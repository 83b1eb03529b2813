/- Steps of the proof of a law. -/
import Derived.Test.YtmbfimckmfnnjaaGreatDoorQ48
import Derived.Test.YtmbfimckmfnnjaaGreatDoorQ49
import Derived.Test.YtmbfimckmfnnjaaGreatDoorQ50
import Derived.Test.YtmbfimckmfnnjaaGreatDoorCards
import Derived.Test.YtmbfimckmfnnjaaGreatDoorTie
import Derived.SevenTiedAt
import Derived.Handed
import Derived.Lib.LaidU8
set_option maxRecDepth 100000
set_option maxHeartbeats 1000000
set_option linter.unusedSimpArgs false
set_option linter.unusedVariables false
namespace Go.Proofs.YtmbfimckmfnnjaaGreatDoor
open Go.RowKit Go.Sx Go.Proofs.Tryz
open Go.ChangeShapes Go.WideShapes Go.ChangeAt Go.RowKit Go.Sx
theorem Hu{H:Type}{enc:TypeId×Value->H}{P:Program}{w:World}{base:Nat}{spare:Nat->Bool}{held:Bool}{fuel:Nat}{t:TypeId}{cs:List Value}{x:DataW H×List MemPlace}{ms:Array (String×TypeId)}(ht:P.underlying t=some (.interface ms))(h:DataW.trod enc P w base spare held fuel t cs=some x):cs=[.nilIface]∨∃u v,cs=[.iface u v]:=by
 cases fuel with
 |zero=>simp[DataW.trod]at h
 |succ n=>
   unfold DataW.trod at h;rw[ht]at h
   split at h<;>simp_all
theorem JW{W:World}(h0:laidMetH prog CM W):zH W:=by
 have h:laidMet prog CM W:=h0;obtain⟨g,t,cs,fuel,p,hg,hty,hvar,hd⟩:=Go.Lib.laidMet.reads h (n:= "strconv.ErrSyntax") (d:=Rows.laid_strconv_ErrSyntax) (by simp[CM]);obtain rfl:=YC ((show Tryz.prog.globalNamed "strconv.ErrSyntax" =some 0 by kernel_rfl).symm.trans hg);obtain rfl:=YC ((show(Tryz.prog.globals[0]?).map (·.type)=some 219 by kernel_rfl).symm.trans hty);have hc:=World.var?_cell hg hvar 0;rcases Hu underlying219 hd with h1|⟨u,v,h1⟩
 · exact⟨.nilIface,hc.trans (by rw[←YY,h1];rfl),.inl rfl⟩
 · exact⟨.iface u v,hc.trans (by rw[←YY,h1];rfl),.inr ⟨u,v,rfl⟩⟩
theorem s8(os:Os)(started:os.Started)(H:Type)(enc:TypeId×Value->H):ReturnsInHanded {} Tryz.checked os 3 .any (fun w args=>(Rows.storeActsSpec.pre enc prog Tryz.f3 [] false w args/\laidMetH prog Rows.storeActsRow.laid w)/\sizedMet enc prog Tryz.f3 (OpenSpec.ofChange Rows.storeActsSpec) false w args)
     (Rows.storeActsSpec.post enc prog Tryz.f3 false true false false):=by
 refine returnsInHanded_of_change_and (C:=Tryz.checked) (X:=fun w _=>laidMetH prog Rows.storeActsRow.laid w) (fun _ _ _ hh h=>h.of_heap hh) Tryz.own started kr func3
   (ChangeSpec.witness_at (enc:=enc) (C:=Tryz.checked) (os:=os) (X:=fun w _=>laidMetH prog Rows.storeActsRow.laid w) false (xF os) #[.slice none 0 0] 8 rfl kr kr kr kr kr (xh os _)) ?_
 intro W base args ds gs before hval0 hW _ hsz0 hL _;have hval:∀(j:Nat) t v,Tryz.f3.params[j]? =some t->args[j]? =some v->Value.okWide prog W .any base t v:=hval0;have hW':=hW;obtain⟨p,q,hA0,hV,rfl,hfz,hnd⟩:=hW;have hA:DataW.TrodAll enc prog W 0 (fun _=>true) true Tryz.f3.params.toList args.toList ds p:=hA0;have hA1:=hA;rw[params3]at hA hval;obtain⟨v0,d0,rfl,rfl,h0⟩:=trodAll_one hA;obtain⟨rfl,rfl⟩:=trodVars_none hV;have hsz1:=HQ hsz0 0 (t:=22) (d:=d0) rfl rfl;obtain⟨a,c,l,rfl,hc0,hl⟩:=EC (hval 0 22 v0 rfl rfl) h0 hsz1;clear hval0;simp only[Xn]at hW';have hc:=C5 (w0:=W) (H:=[]) (JW hL) (a:=a) (l:=l) (c:=c) (hr:=gy.base hc0) (fun q hq=>(hl q hq).PC);refine(hc W (St.refl W)).mono fun e W' ⟨_,he,hw⟩=>?_;subst he;exact⟨_,rfl,xi (pa:=_) (pv:=[]) hW' (fun _ _ _=>trodAll_mk1 (shut_bool underlying4 _)) (fun sp hsp=>qt Tryz.laidOut hw.below (by rw[params3];kernel_rfl) (fun x hx=>hW'.lt x hx) hsp hA1)
   (fun _ _=>rfl) sm hw.below (ok_one kr rfl (okWide_bool_mk underlying4 _))⟩
end Go.Proofs.YtmbfimckmfnnjaaGreatDoor
