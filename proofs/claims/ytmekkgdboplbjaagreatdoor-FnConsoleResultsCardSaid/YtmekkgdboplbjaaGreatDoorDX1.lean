/- What functions of the program compute. No condition. -/
import Derived.Test.YtmekkgdboplbjaaGreatDoorDW1
import Derived.Test.YtmekkgdboplbjaaGreatDoorDC1
set_option linter.all false
namespace Go.Proofs.YtmekkgdboplbjaaGreatDoor
open Go Go.RowKit M PV
set_option maxRecDepth 10000
attribute [local irreducible] PV.Lcl PV.LclR RV.Lcl
def ab1{p3:Fl}{q:ac9}{l:List Row}(hb:eg l≤68719476736):aS Tryz.prog 36 [(true,[val (vI q.Id),val (vI q.ade),sl .v (q.ada.map bU),sl .v (q.Out.map ax)]),(false,[sl .v (l.map (cg p3))])] (aJ [(false,[sl bc ((jJ (fC q l)).map (cg .v))])]):=by
 refine sF Tryz.func36 fun h0 w0 Fz0=>?_
 refine sn 0 2 fun hl0_2=>?_
 refine sn 0 3 fun hl0_3=>?_
 refine sj 1 fun hl1=>?_
 have hbu:=hb
 simp only [eg] at hbu
 refine nB ?_
 refine CG ?_
 refine sT [1,2,4] [2] ?_
 refine uC ?_
 refine aU ?_
 refine sS [1,2,4,5] [2] ?_
 refine iY ?_
 refine sP [1,2,4,5,6] [2] ?_
 refine sL [1,2,4] [2] (fun k:Nat=>k≤l.length) (fun k:Nat=>[(5,RV.slc bc ((fC q (l.take k)).map (cg ak))),(6,RV.int (k:Int))]) (fun k:Nat=>[]) (fun k:Nat=>l.length - k) 0 ab rj au ?_
 rintro k hk
 refine jU ?_
 refine nC ?_
 refine fx ?_
 refine sc ?_ ?_<;>intro hba
 have hlt:k < l.length:=ab
 have hwm:=gw (f:=gx) hlt
 have hfl:=aao (q:=q) (l:=l) (k:=k)
 refine sz ?_
 refine sQ [1,2,4,5,6] [2] ?_
 refine dr ?_
 refine dA 0 ?_ (x:=lD cI gi)
 refine nE ?_
 refine dA 6 ?_ (x:=bT ae jb au aj dW aj)
 refine dA 14 ?_ (x:=lE dK gM)
 refine dA 31 ?_ (x:=cL [(true,cD),(true,cO)] [(true,cI),(true,dK)] VT (hs:=by exact Xh))
 refine sc ?_ ?_<;>intro hbb
 have hc:=hbb
 refine sG [1,2,4,5,6] [2] ?_
 refine bW ?_
 refine iz ?_
 refine uB ?_
 refine rA ?_ (x:=cL [(true,cO)] [(true,dK)] MK (hs:=by exact Ol ab))
 refine uS ?_
 exact JW
 have hc:=hbb
 refine bd ?_
 exact JW
 have hend:k=l.length:=ab
 have htk:l.take k=l:=oo ab
 have hfw:eg (fC q (l.take k))≤68719476736:=by rw [htk];have:=PR q l;omega
 refine bv ?_
 refine sT [1,2,4,5,6] [2] ?_
 refine fc ?_
 refine rA ?_ (x:=cL [(false,[sl _ _])] [(false,[sl .v _])] VU (hs:=by exact (ab0 ab)))
 refine fY ?_
 refine cv ?_
 exact (aI (by refine cU ?_;rw [htk];rfl) tI)
end Go.Proofs.YtmekkgdboplbjaaGreatDoor
