/- What functions of the program compute. No condition. -/
import Derived.Test.YtmekkgdboplbjaaGreatDoorDL0
import Derived.Test.YtmekkgdboplbjaaGreatDoorDH0
set_option linter.all false
namespace Go.Proofs.YtmekkgdboplbjaaGreatDoor
open Go Go.RowKit M PV Tryz
set_option maxRecDepth 10000
attribute [local irreducible] PV.Lcl PV.LclR RV.Lcl
def XR{x:List dt}{y:List dt}:aS prog 190 [(false,[sl .v (x.map bU)]),(false,[sl .v (y.map bU)])] (aJ [(false,[val (.bool (kI x y))])]):=by
 refine sF func190 fun h0 w0 Fz0=>?_
 refine sj 0 fun hl0=>?_
 refine sj 1 fun hl1=>?_
 refine uQ ?_
 refine Cn ?_
 refine Cn ?_
 refine rA ?_ (x:=lm)
 refine sc ?_ ?_<;>intro hba
 exact Iz
 have hl:x.length=y.length:=ab
 refine dH ?_
 refine sS [0,1,4] [] ?_
 refine Cn ?_
 refine dM ?_
 refine Kw ?_
 rintro k ⟨hk,ha⟩
 refine bO ?_
 refine sc ?_ ?_<;>intro hbb
 have hlt:k < x.length:=ab
 have hlt2:k < y.length:=ab
 refine bA ?_
 refine sS [0,1,12,13] [] ?_
 refine rM ?_
 refine gu ?_
 refine sP [0,1,5,12,13] [] ?_
 refine dr ?_
 refine nE ?_
 refine dA 3 ?_ (x:=bT ae gK au aj dW aj)
 refine dA 7 ?_ (x:=lE gH ti)
 refine nE ?_
 refine dA 48 ?_ (x:=bT ae gK au aj dW aj)
 refine dA 112 ?_ (x:=lE gH ti)
 refine dA 255 ?_ (x:=RR [vI _,vI _,vI _] [vI _,vI _,vI _] ae (TX _ _ _ _ _ _ _ _))
 refine sc ?_ ?_<;>intro hbc
 exact IA
 refine bd ?_
 refine sG [0,1,5,12,13] [] ?_
 refine cf ?_
 refine nx (k+1) (by exact ⟨ab,ME ha hlt hlt2 (by simp_all [TG])⟩)
 exact IB
def XS{x:ac9}{y:ac9}:aS prog 111 [(true,[val (vI x.Id),val (vI x.ade),sl .v (x.ada.map bU),sl .v (x.Out.map ax)]),(true,[val (vI y.Id),val (vI y.ade),sl .v (y.ada.map bU),sl .v (y.Out.map ax)])] (aJ [(false,[val (.bool (kI x y))])]):=by
 refine sF func111 fun h0 w0 Fz0=>?_
 refine sn 0 2 fun hl0_2=>?_
 refine sn 0 3 fun hl0_3=>?_
 refine sn 1 2 fun hl1_2=>?_
 refine sn 1 3 fun hl1_3=>?_
 refine nB ?_
 refine CH ?_
 refine ya ?_
 refine sb ?_
 refine sb ?_
 refine oH ?_
 refine cx 10 (fun ga sga=>?_) (fun ga sga=>?_)
 refine Ch ?_
 refine Ch ?_
 refine qk ?_
 refine rM ?_
 refine cx 17 (fun gb sgb=>?_) (fun gb sgb=>?_)
 refine xK ?_
 refine xK ?_
 refine rB gb ?_ (x:=cL [(false,[sl _ _]),(false,[sl _ _])] [(false,[sl .v _]),(false,[sl .v _])] TQ (hs:=by exact XR))
 refine kD ?_
 refine cx 24 (fun gc sgc=>?_) (fun gc sgc=>?_)
 refine Cd ?_
 refine Cd ?_
 refine rB gc ?_ (x:=cL [(false,[sl _ _]),(false,[sl _ _])] [(false,[sl .v _]),(false,[sl .v _])] ML (hs:=by exact Oq))
 refine my ?_
 exact xq
 refine kE ?_
 exact xq
 refine lx ?_
 refine av.cases (s:=24) rfl (fun g4=>nomatch g4) (fun g4=>?_)
 refine zf g4 ?_
 refine rA ?_ (x:=aK g4)
 exact xq
 refine qu ?_
 refine av.cases (s:=17) rfl (fun g5=>nomatch g5) (fun g5=>?_)
 refine xZ ?_
 refine rM ?_
 refine av.cases (s:=24) rfl (fun g6=>nomatch g6) (fun g6=>?_)
 refine zf g6 ?_
 refine rA ?_ (x:=aK g6)
 exact xq
def XT{x:adb}{y:adb}:aS prog 112 [(true,[val (vI x.Kind),val (vI x.Row.Id),sl .v (x.Row.Values.map ax),val (vI x.Field),val (vI x.Value)]),(true,[val (vI y.Kind),val (vI y.Row.Id),sl .v (y.Row.Values.map ax),val (vI y.Field),val (vI y.Value)])] (aJ [(false,[val (.bool (kI x y))])]):=by
 refine sF func112 fun h0 w0 Fz0=>?_
 refine sn 0 2 fun hl0_2=>?_
 refine sn 1 2 fun hl1_2=>?_
 refine BR ?_
 refine Mo ?_
 refine ya ?_
 refine oD ?_
 refine oD ?_
 refine oH ?_
 refine cx 10 (fun ga sga=>?_) (fun ga sga=>?_)
 refine rB ga ?_ (x:=lF tf)
 refine ye ?_
 refine rB ga ?_ (x:=lF tf)
 refine ye ?_
 refine rB ga ?_ (x:=cL [(true,cO),(true,cO)] [(true,dK),(true,dK)] TR (hs:=by exact Xm))
 refine sr ?_
 refine cx 17 (fun gb sgb=>?_) (fun gb sgb=>?_)
 refine uF ?_
 refine uF ?_
 refine rB gb ?_ (x:=iV)
 refine kD ?_
 refine cx 24 (fun gc sgc=>?_) (fun gc sgc=>?_)
 refine rB gc ?_ (x:=lF qB)
 refine sJ ?_
 refine rB gc ?_ (x:=lF qB)
 refine BT ?_
 exact xr
 refine kE ?_
 exact xr
 refine lx ?_
 refine av.cases (s:=24) rfl (fun g4=>nomatch g4) (fun g4=>?_)
 refine zf g4 ?_
 refine rA ?_ (x:=aK g4)
 exact xr
 refine qu ?_
 refine av.cases (s:=17) rfl (fun g5=>nomatch g5) (fun g5=>?_)
 refine xZ ?_
 refine rM ?_
 refine av.cases (s:=24) rfl (fun g6=>nomatch g6) (fun g6=>?_)
 refine zf g6 ?_
 refine rA ?_ (x:=aK g6)
 exact xr
end Go.Proofs.YtmekkgdboplbjaaGreatDoor
