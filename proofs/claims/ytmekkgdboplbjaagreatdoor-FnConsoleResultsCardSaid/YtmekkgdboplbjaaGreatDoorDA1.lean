/- What functions of the program compute. No condition. -/
import Derived.Test.YtmekkgdboplbjaaGreatDoorDY0
import Derived.Test.YtmekkgdboplbjaaGreatDoorDV0
set_option linter.all false
namespace Go.Proofs.YtmekkgdboplbjaaGreatDoor
open Go Go.RowKit M PV
set_option maxRecDepth 10000
attribute [local irreducible] PV.Lcl PV.LclR RV.Lcl
set_option maxHeartbeats 8000000
def XJ{p1 p2 p5 p6 p7 p8 p9 p11 p12 p13 p14 p16 p17 p18:Fl}{e:ar}{id:Int}(hb:bw e≤68719000000):aS Tryz.prog 117 [(true,[sl .v (e.Store.ac7.map (be p1 p2)),val (vI e.Store.Now),val (vI e.adc),sl .v (e.Order.map ax),sl .v (e.ac8.map (bz p5 p6 p7 p8 p9)),sl .v (e.Done.map (cn p11 p12 p13 p14)),sl .v (e.adl.map (cm p16 p17 p18)),val (vI e.Steps)]),(false,[val (vI id)])] (aJ [(true,[sl dg ((ff e id).1.Store.ac7.map (be bJ ak)),val (vI (ff e id).1.Store.Now),val (vI (ff e id).1.adc),sl ak ((ff e id).1.Order.map ax),sl fq ((ff e id).1.ac8.map (bz bb ak ak bc ak)),sl ft ((ff e id).1.Done.map (cn bb ak bc ak)),sl fu ((ff e id).1.adl.map (cm ak ak ak)),val (vI (ff e id).1.Steps)]),(false,[val (.bool (ff e id).2)])]):=by
 refine uj (largs:=fun L=>[(true,[sl (.lo L) (e.Store.ac7.map (be (.lo L) (.lo L))),val (vI e.Store.Now),val (vI e.adc),sl (.lo L) (e.Order.map ax),sl (.lo L) (e.ac8.map (bz (.lo L) (.lo L) (.lo L) (.lo L) (.lo L))),sl (.lo L) (e.Done.map (cn (.lo L) (.lo L) (.lo L) (.lo L))),sl (.lo L) (e.adl.map (cm (.lo L) (.lo L) (.lo L))),val (vI e.Steps)]),(false,[val (vI id)])]) (rs:=[(true,[sl dg ((ff e id).1.Store.ac7.map (be bJ ak)),val (vI (ff e id).1.Store.Now),val (vI (ff e id).1.adc),sl ak ((ff e id).1.Order.map ax),sl fq ((ff e id).1.ac8.map (bz bb ak ak bc ak)),sl ft ((ff e id).1.Done.map (cn bb ak bc ak)),sl fu ((ff e id).1.adl.map (cm ak ak ak)),val (vI (ff e id).1.Steps)]),(false,[val (.bool (ff e id).2)])]) Tryz.func117 rfl (nl rfl) (fun L=>by exact (aI (aI rfl (ao.cons (bm (fun _=>nl rfl) (fun _=>(ao.cons (bm (fun _=>nl rfl) (fun _=>(ao.cons aG (ao.cons (bm (fun _=>nl rfl) (fun _=>(ao.cons aG ao.nil))) (ao.cons aG (ao.cons aG ao.nil)))))) ao.nil))) (ao.cons aG (ao.cons aG (ao.cons (bm (fun _=>nl rfl) (fun _=>(ao.cons aG ao.nil))) (ao.cons (bm (fun _=>nl rfl) (fun _=>(ao.cons aG (ao.cons aG (ao.cons (bm (fun _=>nl rfl) (fun _=>(ao.cons aG (ao.cons aG (ao.cons aG ao.nil))))) (ao.cons (bm (fun _=>nl rfl) (fun _=>(ao.cons aG ao.nil))) (ao.cons aG (ao.cons (bm (fun _=>nl rfl) (fun _=>(ao.cons aG ao.nil))) (ao.cons aG (ao.cons aG (ao.cons aG (ao.cons (bm (fun _=>nl rfl) (fun _=>(ao.cons aG (ao.cons (bm (fun _=>nl rfl) (fun _=>(ao.cons aG ao.nil))) ao.nil)))) ao.nil)))))))))))) (ao.cons (bm (fun _=>nl rfl) (fun _=>(ao.cons aG (ao.cons aG (ao.cons (bm (fun _=>nl rfl) (fun _=>(ao.cons aG (ao.cons aG (ao.cons aG ao.nil))))) (ao.cons (bm (fun _=>nl rfl) (fun _=>(ao.cons aG ao.nil))) (ao.cons aG (ao.cons aG (ao.cons (bm (fun _=>nl rfl) (fun _=>(ao.cons aG (ao.cons (bm (fun _=>nl rfl) (fun _=>(ao.cons aG ao.nil))) ao.nil)))) ao.nil))))))))) (ao.cons (bm (fun _=>nl rfl) (fun _=>(ao.cons aG (ao.cons aG (ao.cons (bm (fun _=>nl rfl) (fun _=>(ao.cons aG ao.nil))) (ao.cons (bm (fun _=>nl rfl) (fun _=>(ao.cons aG ao.nil))) (ao.cons (bm (fun _=>nl rfl) (fun _=>(ao.cons aG ao.nil))) ao.nil))))))) (ao.cons aG ao.nil))))))))) (aI (aI rfl (ao.cons aG ao.nil)) tI))) (fun L=>by exact lq) ?_
 intro w0 Fz0
 refine sn 0 0 fun hl0_0=>?_
 refine sn 0 3 fun hl0_3=>?_
 refine sn 0 4 fun hl0_4=>?_
 refine sn 0 5 fun hl0_5=>?_
 refine sn 0 6 fun hl0_6=>?_
 have hbu:=hb
 simp only [bw,jZ,mG,kJ] at hbu
 refine BA ?_
 refine xQ ?_
 refine sO [(1,_),(2,_),(4,_),(5,_)] [(2,(46,[sl (.lo _) _,val _,val _,sl (.lo _) _,sl (.lo _) _,sl (.lo _) _,sl (.lo _) _,val _])),(4,(46,bj))] ?_
 refine Bn ?_
 refine nA ?_
 refine aU ?_
 refine sO [(1,_),(2,_),(4,_),(5,_),(6,_)] [(2,_),(4,_),(6,(46,bj))] ?_
 refine uy ?_
 refine rM ?_
 refine Kz ?_
 refine sS [1,2,4,5,6,7] [2,4,6] ?_
 refine CJ ?_
 refine Bo ?_
 refine cx 16 (fun ga sga=>?_) (fun ga sga=>?_)
 refine jT ?_
 exact IU
 refine Cv ?_
 refine jY ?_
 refine sc ?_ ?_<;>intro hba
 exact IU
 have hoe:aP e=true:=eX
 have hge:0≤fL e.ac8 id:=ua
 have hok:kR e id=true:=by unfold kR;rw [hoe,decide_eq_true hge];rfl
 obtain ⟨i,hi,hf⟩:=NE hge
 have hef:=kN hoe
 have hdw:=NG hi
 have hdl:=HW hi
 refine dH ?_
 refine sP [1,2,4,5,6,7] [2,4,6] ?_
 refine rH (d:=6) (t:=46) (D:=900) (G:=2900) (E:=102) (e:=10) (L:=(Lw w0.heap.size)) (A:=oy) (B:=oz) (es:=(e.ac8).map (bz bb ak ak bc ak)) aj (pS hi) aj aj rfl aj (fun x hx=>hx) bn bn bn bn (az.map fun x=>(az.cons lcl_val (az.cons lcl_val (az.cons (lcl_own (az.map fun x=>(az.cons lcl_val (az.cons lcl_val (az.cons lcl_val az.nil))))) (az.cons (lcl_own (az.map fun x=>(az.cons lcl_val az.nil))) (az.cons lcl_val (az.cons (lcl_own (az.map fun x=>(az.cons lcl_val az.nil))) (az.cons lcl_val (az.cons lcl_val (az.cons lcl_val (az.cons (lcl_own (az.map fun x=>(az.cons lcl_val (az.cons (lcl_own (az.map fun x=>(az.cons lcl_val az.nil))) az.nil)))) az.nil))))))))))) fun uu900 cp900 jk900 hlD900 hcp900 hjk900=>?_
 rw [aO] at hlD900 hcp900 hjk900
 refine fV (d:=900) aj (show _=bo (bz bb ak ak bc ak) (e.ac8) jk900 from rfl) ?_
 refine sO [(1,_),(2,_),(4,_),(5,_),(6,_),(7,_),(2900,_)] [(2,_),(4,_),(6,(46,AD)),(900,(102,bo (bz bb ak ak bc ak) _ _))] ?_
 refine Sm (d:=900) (G:=4900) (e:=10) (f:=(bz bb ak ak bc ak)) (g:=(fun z:ac8=>[val (vI z.ac9.Id),val (vI z.ac9.ade),sl .v (z.ac9.ada.map bU),sl .v (z.ac9.Out.map ax),val (vI z.Time),sl .v (z.adi.map ax),val (vI z.Age),val (vI z.Sent),val (vI z.Cap),sl .v (z.Rows.map (cg ak))])) (fN:=kf) aj aj (fun _ _=>rfl) (fun _=>rfl) (fun _=>(aD (aD (bK (bK (aD (bK (aD (aD (aD (bK aA.nil))))))))))) (fun _=>bn) fun zs900 hz900=>?_
 refine sO [(1,_),(2,_),(4,_),(5,_),(6,_),(7,_),(2900,_),(4900,_)] [(2,_),(4,_),(6,_),(900,(102,bo kf _ _))] ?_
 refine dr ?_
 refine dA 0 ?_ (x:=lF kh)
 refine dA 1 ?_ (x:=lD [val _] ki)
 refine jy ?_
 refine dA 7 ?_ (x:=HX (G:=2900) (i:=0) (j:=i) (q:=(0:Int)) ae gR aj au jo ab ab wq)
 refine dA 0 ?_ (x:=lF kh)
 refine dA 16 ?_ (x:=lD [val _] ki)
 refine jy ?_
 refine dA 64 ?_ (x:=AA)
 refine dA 240 ?_ (x:=HX (G:=2900) (i:=(i+1)) (j:=(e.ac8.map (bz bb ak ak bc ak)).length) (r:=(((e.ac8.map (bz bb ak ak bc ak)).length:Nat):Int)) ae gR au aj ab jo wq ab)
 refine dA 511 ?_ (x:=Tb (G:=2900) (D:=900) (i:=i) (g:=(fun z:ac8=>[val (vI z.ac9.Id),val (vI z.ac9.ade),sl .v (z.ac9.ada.map bU),sl .v (z.ac9.Out.map ax),val (vI z.Time),sl .v (z.adi.map ax),val (vI z.Age),val (vI z.Sent),val (vI z.Cap),sl .v (z.Rows.map (cg ak))])) (fN:=kf) ae gR ae (fun _ _=>rfl) (fun _=>rfl) (fun _=>bn) FL (by rw [aO];exact hi) wk aj)
 refine dA 1023 ?_ (x:=lF kh)
 refine dA 2047 ?_ (x:=bZ (ag:=false) (vs:=[val _]) ki au aj aH)
 refine SV (d:=900) (G:=4900) (e:=10) (f:=(bz bb ak ak bc ak)) (g:=(fun z:ac8=>[val (vI z.ac9.Id),val (vI z.ac9.ade),sl .v (z.ac9.ada.map bU),sl .v (z.ac9.Out.map ax),val (vI z.Time),sl .v (z.adi.map ax),val (vI z.Age),val (vI z.Sent),val (vI z.Cap),sl .v (z.Rows.map (cg ak))])) (fN:=kf) [zs900[i]'(FP)] (fX e.ac8 i) aj aj (fun _ _=>rfl) (fun _=>rfl) (fun _=>rfl) (by exact NF FP) (by exact VA hz900) ?_
 refine rI (d:=6) (D:=900) (G:=2900) (e:=10) (A:=oy) (B:=oz) (es:=((fX e.ac8 i)).map (bz bb ak ak bc ak)) aj aj aj rfl (by rw [aO,hdl,aO]) pJ (by exact Ta FL wq wk) ?_
 refine aU ?_
 refine sO [(1,_),(2,_),(4,_),(5,_),(6,_),(7,_)] [(2,_),(4,_),(6,(46,bj))] ?_
 refine As ?_
 refine wA ?_ (x:=fa (ms:=bj) (qs:=[any,val _,val _,any,any,any,any,val _]) ae dl (fun h=>nomatch h) aH aj zE bn)
 refine wO [(1,_),(2,_),(4,_),(5,_),(6,_),(7,_),(32,_)] [(2,_),(4,_),(6,(46,[any,val _,val _,any,any,any,any,val _]))] ?_
 refine Az (L:=(Lw w0.heap.size)) (qs:=[(true,bj)]) (as_:=[(true,bj)]) ae DK zL eW ae bn (by exact (El (e:=qM e i) ab)) (fun x hx=>hx) bn bn ?_
 refine wA ?_ (x:=bZ (ag:=true) (vs:=bj) dl au aj aH)
 refine wA ?_ (x:=kA)
 refine Ar ?_
 refine cv ?_
 exact (ba 4 (ba _ (aI aj (aI (by refine cV ?_;rw [Dy hok hf];exact rfl) (aI dl (aI (fun h=>nomatch h) (aI (by refine dh ?_;rw [Dy hok hf]) tI)))))))
end Go.Proofs.YtmekkgdboplbjaaGreatDoor
