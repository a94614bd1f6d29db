/- What functions of the program compute. No condition. -/
import Derived.Test.YtmekkgdboplbjaaGreatDoorEI0
set_option linter.all false
namespace Go.Proofs.YtmekkgdboplbjaaGreatDoor
open Go Go.RowKit M PV
set_option maxRecDepth 10000
attribute [local irreducible] PV.Lcl PV.LclR RV.Lcl
def arz{l:List Int}:aQ Tryz.prog 228 [(false,[sl .v (l.map ar)])] (aB [(false,[val (.bool (eV l))])]):=by
 refine sF Tryz.func228 fun h0 w0 Fz0=>?_
 refine sj 0 fun hl0=>?_
 refine zi ?_
 refine zH ?_
 refine sP [0,2,5,6,7] [] ?_
 refine sL [0,5,6] [] (fun k:Nat=>k≤l.length∧Du l k=true) (fun k:Nat=>[(7,RV.int (k:Int))]) (fun k:Nat=>[]) (fun k:Nat=>l.length - k) 0 gF bp an ?_
 rintro k ⟨hk,ha⟩
 refine cY ?_
 refine sc ?_ ?_<;>intro hba
 have hlt:k < l.length:=ab
 have hgk:l.getD k 0=l[k]:=by simp [hlt]
 have hgp:0 < k→l.getD (k - 1) 0=l[k - 1]:=fun h=>by rw [List.getD_eq_getElem?_getD,List.getElem?_eq_getElem ab];rfl
 refine bv ?_
 refine sS [0,5,6,7] [] ?_
 refine rM ?_
 refine yQ ?_
 refine td ?_
 refine sS [0,3,4,5,6,7] [] ?_
 refine uJ ?_
 refine rM ?_
 refine cx 14 ?_ ?_<;>intro ga sga
 refine jH ?_
 refine au.cases (s:=18) rfl (fun g3=>?_) (fun g3=>nomatch g3)
 refine oF ?_
 exact Yp
 refine gN ?_
 refine rB ga ?_ (x:=kJ)
 refine ly ?_
 refine cx 18 ?_ ?_<;>intro gb sgb
 refine zt gb ?_
 refine kO ?_
 exact Yp
 refine HV ?_
 refine kh ?_
 refine cx 21 ?_ ?_<;>intro gc sgc
 refine rB gc ?_ (x:=vM false [sl .v _])
 refine nL ?_
 refine rB gc ?_ (x:=jo)
 refine rB gc ?_ (x:=aZ (k:=k - 1) aj cn an ab bE ak)
 refine rB gc ?_ (x:=lE [val _] bb)
 refine nL ?_
 refine rB gc ?_ (x:=kJ)
 refine rB gb ?_ (x:=bj gc)
 refine pI ?_
 refine sc ?_ ?_<;>intro hbb
 refine sS [0,3,4,5,6,7] [] ?_
 exact Gu
 exact Yr
 refine zf gc ?_
 refine rB gb ?_ (x:=aR gc)
 refine pI ?_
 refine gv ?_
 exact Yr
 have hend:k=l.length:=ab
 refine bI ?_
 refine sS [0,5,6,7] [] ?_
 exact Ys
def RZ{l:List Int}:aQ Tryz.prog 232 [(false,[sl .v (l.map ar)])] (aB [(false,[val (.bool (eV l))])]):=by
 refine sF Tryz.func232 fun h0 w0 Fz0=>?_
 refine sj 0 fun hl0=>?_
 refine zI ?_
 refine sL [0] [] (fun k:Nat=>k≤l.length∧Du l k=true) (fun k:Nat=>[(3,RV.int (k:Int))]) (fun k:Nat=>[]) (fun k:Nat=>l.length - k) 0 gF bp an ?_
 rintro k ⟨hk,ha⟩
 refine oH ?_
 refine sc ?_ ?_<;>intro hba
 have hlt:k < l.length:=ab
 have hgk:l.getD k 0=l[k]:=by simp [hlt]
 have hgp:0 < k→l.getD (k - 1) 0=l[k - 1]:=fun h=>by rw [List.getD_eq_getElem?_getD,List.getElem?_eq_getElem ab];rfl
 refine eB ?_
 refine sP [0,3] [] ?_
 refine oG ?_
 refine Cg ?_
 refine zj4 ?_
 refine dA 63 ?_ (x:=sM)
 refine dx 16 ?_ ?_<;>intro ga sga
 refine dT 127 ga ?_
 refine dT 255 ga ?_
 refine dT 511 ga ?_
 refine zE ?_
 refine CX ?_
 refine zE ?_
 refine dU 33791 ?_
 refine dU 115711 ?_
 refine dU 246783 ?_
 refine dU 524287 ?_
 refine dT 1048575 ga ?_
 refine dA 2097151 ?_ (x:=bj ga)
 refine cH ?_
 refine sS [0,3] [] ?_
 exact Gu
 refine PW ?_
 refine xl ?_
 refine dx 19 ?_ ?_<;>intro gb sgb
 refine zc ?_
 refine dB 4095 gb ?_ (x:=aZ aj cn an ak bE ak)
 refine dB 8191 gb ?_ (x:=lE [val _] bb)
 refine zc ?_
 refine dB 33791 gb ?_ (x:=jo)
 refine dB 115711 gb ?_ (x:=aZ (k:=k - 1) aj cn an ab bE ak)
 refine dB 246783 gb ?_ (x:=lE [val _] bb)
 refine dB 524287 gb ?_ (x:=kf)
 refine dB 1048575 ga ?_ (x:=bj gb)
 refine dA 2097151 ?_ (x:=aR ga)
 refine sc ?_ ?_<;>intro hbb
 refine sS [0,3] [] ?_
 exact Gu
 exact Yt
 refine zv ?_
 refine dF 4095 gb ?_
 refine dF 8191 gb ?_
 refine zv ?_
 refine dF 33791 gb ?_
 refine dF 115711 gb ?_
 refine dF 246783 gb ?_
 refine dF 524287 gb ?_
 refine dB 1048575 ga ?_ (x:=aR gb)
 refine dA 2097151 ?_ (x:=aR ga)
 refine gv ?_
 exact Yt
 have hend:k=l.length:=ab
 refine wS ?_
 exact Ys
end Go.Proofs.YtmekkgdboplbjaaGreatDoor
namespace Go.Proofs.YtmekkgdboplbjaaGreatDoor
open Go Go.RowKit M PV
set_option maxRecDepth 10000
attribute [local irreducible] PV.Lcl PV.LclR RV.Lcl
def arA{a:List Int}{b:List Int}:aQ Tryz.prog 330 [(false,[sl .v (a.map ar)]),(false,[sl .v (b.map ar)])] (aB [(false,[sl ai ((tx a b).map ar)])]):=by
 refine sF Tryz.func330 fun h0 w0 Fz0=>?_
 refine sj 0 fun hl0=>?_
 refine sj 1 fun hl1=>?_
 refine sY ?_
 refine pK ?_
 refine re ?_
 refine sS [0,1,4,5] [] ?_
 refine cl ?_
 refine sP [0,1,4,5,6] [] ?_
 refine sL [0,1,4] [] (fun k:Nat=>k≤a.length∧(0 < k→(eV a&&eV b)=true)) (fun k:Nat=>[(5,RV.slc ai (((a.take k).filter (fun x=>cv b x)).map ar)),(6,RV.int (k:Int))]) (fun k:Nat=>[]) (fun k:Nat=>a.length - k) 0 Lm vV an ?_
 rintro k ⟨hk,ha⟩
 refine oH ?_
 refine rM ?_
 refine cx 12 ?_ ?_<;>intro ga sga
 refine zR ?_
 refine rB ga ?_ (x:=cL [(false,[sl _ _])] [(false,[sl .v _])] Rb (hs:=by exact RZ))
 refine qZ ?_
 refine cx 16 ?_ ?_<;>intro gb sgb
 refine xm ?_
 refine rB gb ?_ (x:=cL [(false,[sl _ _])] [(false,[sl .v _])] Rb (hs:=by exact RZ))
 refine kO ?_
 refine sc ?_ ?_<;>intro hba
 have hlt:k < a.length:=by simp at *;omega
 have hok2:(eV a&&eV b)=true:=dO
 have h24:=anL ((Bool.and_eq_true_iff).1 hok2).1
 have hln:((a.take k).filter (fun x=>cv b x)).length≤k:=Nat.le_trans (kE _ _) fb
 refine bv ?_
 refine xn ?_
 refine dD ?_
 refine xb ?_
 refine rA ?_ (x:=cL [(false,[sl _ _]),(false,[val _])] [(false,[sl .v _]),(false,[val _])] Jb (hs:=EQ))
 refine sc ?_ ?_<;>intro hbb
 have hc:=hbb
 refine sG [0,1,4,5,6] [] ?_
 refine cb ?_
 refine xb ?_
 refine rc ?_
 exact Yu
 have hc:=hbb
 refine ba ?_
 exact Yu
 exact MM
 refine oE ?_
 refine gv ?_
 exact MM
 refine jb ?_
 refine au.cases (s:=16) rfl (fun g6=>nomatch g6) (fun g6=>?_)
 refine uF ?_
 refine gv ?_
 exact MM
end Go.Proofs.YtmekkgdboplbjaaGreatDoor
