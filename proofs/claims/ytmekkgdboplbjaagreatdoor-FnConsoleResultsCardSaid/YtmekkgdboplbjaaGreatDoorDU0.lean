/- What functions of the program compute. No condition. -/
import Derived.Test.YtmekkgdboplbjaaGreatDoorDR0
set_option linter.all false
namespace Go.Proofs.YtmekkgdboplbjaaGreatDoor
open Go Go.RowKit M PV
set_option maxRecDepth 10000
attribute [local irreducible] PV.Lcl PV.LclR RV.Lcl
def XB{p4:Fl}{a:ac8}:aS Tryz.prog 68 [(true,[val (vI a.ac9.Id),val (vI a.ac9.ade),sl .v (a.ac9.ada.map bU),sl .v (a.ac9.Out.map ax),val (vI a.Time),sl .v (a.adi.map ax),val (vI a.Age),val (vI a.Sent),val (vI a.Cap),sl .v (a.Rows.map (cg p4))])] (aJ [(false,[val (.bool (mS a))])]):=by
 refine sF Tryz.func68 fun h0 w0 Fz0=>?_
 refine sn 0 2 fun hl0_2=>?_
 refine sn 0 3 fun hl0_3=>?_
 refine sn 0 5 fun hl0_5=>?_
 refine sn 0 9 fun hl0_9=>?_
 refine Lh ?_
 refine si ?_
 refine rA ?_ (x:=lF DT)
 refine eA ?_
 refine oH ?_
 refine cx 6 (fun ga sga=>?_) (fun ga sga=>?_)
 refine xA ?_
 exact IM
 refine rB ga ?_ (x:=lF DT)
 refine jz ?_
 refine rB ga ?_ (x:=lF vw)
 refine jz ?_
 refine rB ga ?_ (x:=fH)
 refine jY ?_
 exact IM
end Go.Proofs.YtmekkgdboplbjaaGreatDoor
