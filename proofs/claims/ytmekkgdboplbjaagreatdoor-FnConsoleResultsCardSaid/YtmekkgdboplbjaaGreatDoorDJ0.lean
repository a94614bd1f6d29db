/- What functions of the program compute. No condition. -/
import Derived.Test.YtmekkgdboplbjaaGreatDoorDG0
set_option linter.all false
namespace Go.Proofs.YtmekkgdboplbjaaGreatDoor
open Go Go.RowKit M PV
set_option maxRecDepth 10000
attribute [local irreducible] PV.Lcl PV.LclR RV.Lcl
def Xl{l:List Int}:aS Tryz.prog 228 [(false,[sl .v (l.map ax)])] (aJ [(false,[val (.bool (vc l))])]):=by
 refine sF Tryz.func228 fun h0 w0 Fz0=>?_
 refine sj 0 fun hl0=>?_
 refine oI ?_
 refine sB ?_
 refine sP [0,2,5,6,7] [] ?_
 refine sL [0,5,6] [] (fun k:Nat=>k≤l.length∧yp l k=true) (fun k:Nat=>[(7,RV.int (k:Int))]) (fun k:Nat=>[]) (fun k:Nat=>l.length - k) 0 jM cb au ?_
 rintro k ⟨hk,ha⟩
 refine bO ?_
 refine sc ?_ ?_<;>intro hba
 have hlt:k < l.length:=ab
 have hgk:l.getD k 0=l[k]:=by simp [hlt]
 have hgp:0 < k→l.getD (k - 1) 0=l[k - 1]:=fun h=>by rw [List.getD_eq_getElem?_getD,List.getElem?_eq_getElem ab];rfl
 refine bA ?_
 refine sS [0,5,6,7] [] ?_
 refine rM ?_
 refine qd ?_
 refine jS ?_
 refine sS [0,3,4,5,6,7] [] ?_
 refine rM ?_
 refine sx ?_
 refine cx 14 (fun ga sga=>?_) (fun ga sga=>?_)
 refine ly ?_
 refine av.cases (s:=18) rfl (fun g3=>?_) (fun g3=>nomatch g3)
 refine qn ?_
 refine cd ?_
 exact AQ
 refine gv ?_
 refine rB ga ?_ (x:=ll)
 refine qp ?_
 refine cx 18 (fun gb sgb=>?_) (fun gb sgb=>?_)
 refine uO ?_
 refine cd ?_
 exact AQ
 refine lz ?_
 refine rB gb ?_ (x:=fH)
 refine lz ?_
 refine cx 21 (fun gc sgc=>?_) (fun gc sgc=>?_)
 refine rB gc ?_ (x:=vM false [sl .v _])
 refine rB gc ?_ (x:=sM)
 refine rB gc ?_ (x:=nr)
 refine rB gc ?_ (x:=bT (k:=k - 1) ae ej au ab dW aj)
 refine rB gc ?_ (x:=lE [val _] bB)
 refine rB gc ?_ (x:=sM)
 refine rB gc ?_ (x:=ll)
 refine rB gb ?_ (x:=bF gc)
 refine rA ?_ (x:=aK gb)
 refine sc ?_ ?_<;>intro hbb
 exact AQ
 exact Iy
 refine zf gc ?_
 refine rB gb ?_ (x:=aK gc)
 refine rA ?_ (x:=aK gb)
 refine fW ?_
 exact Iy
 have hend:k=l.length:=ab
 refine bv ?_
 refine sS [0,5,6,7] [] ?_
 refine bG ?_
 exact rb (by subst hend;exact ha.symm)
end Go.Proofs.YtmekkgdboplbjaaGreatDoor
