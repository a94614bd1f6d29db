/- What functions of the program compute. No condition. -/
import Derived.Test.YtmekkgdboplbjaaGreatDoorDP0
import Derived.Test.YtmekkgdboplbjaaGreatDoorDJ0
set_option linter.all false
namespace Go.Proofs.YtmekkgdboplbjaaGreatDoor
open Go Go.RowKit M PV
set_option maxRecDepth 10000
attribute [local irreducible] PV.Lcl PV.LclR RV.Lcl
def Xt{x:hE}:aS Tryz.prog 156 [(true,[val (vI x.Segment),val (vI x.Base),sl .v (x.Ids.map ax),sl .v (x.adf.map ax),sl .v (x.Rows.map ax)])] (aJ [(false,[val (.bool (gk x))])]):=by
 refine sF Tryz.func156 fun h0 w0 Fz0=>?_
 refine sn 0 2 fun hl0_2=>?_
 refine sn 0 3 fun hl0_3=>?_
 refine sn 0 4 fun hl0_4=>?_
 refine LB ?_
 refine si ?_
 refine rA ?_ (x:=lF pq)
 refine qi ?_
 refine gu ?_
 refine jX ?_
 refine rA ?_ (x:=lF pq)
 refine uW ?_
 refine rA ?_ (x:=cL [(false,[sl _ _])] [(false,[sl .v _])] TS (hs:=by exact Xl))
 refine fj ?_
 refine cx 12 (fun ga sga=>?_) (fun ga sga=>?_)
 refine ly ?_
 refine av.cases (s:=17) rfl (fun g2=>?_) (fun g2=>nomatch g2)
 refine mw ?_
 refine rM ?_
 refine av.cases (s:=24) rfl (fun g3=>?_) (fun g3=>nomatch g3)
 refine qn ?_
 refine cd ?_
 exact xm
 refine gv ?_
 refine rU ?_
 refine qp ?_
 refine cx 17 (fun gb sgb=>?_) (fun gb sgb=>?_)
 refine qr ?_
 refine av.cases (s:=24) rfl (fun g6=>?_) (fun g6=>nomatch g6)
 refine uP ?_
 refine cd ?_
 exact xm
 refine rB gb ?_ (x:=lF tu)
 refine rB gb ?_ (x:=lD [sl .v _] ek)
 refine rB gb ?_ (x:=lN ej)
 refine lz ?_
 refine rB gb ?_ (x:=lm)
 refine rW ?_
 refine cx 24 (fun gc sgc=>?_) (fun gc sgc=>?_)
 refine qm ?_
 refine cd ?_
 exact xm
 refine rB gc ?_ (x:=lF tv)
 refine rB gc ?_ (x:=lD [sl .v _] ek)
 refine rB gc ?_ (x:=lN ej)
 refine rB gc ?_ (x:=sM)
 refine rB gc ?_ (x:=lm)
 refine lA ?_
 refine sc ?_ ?_<;>intro hba
 exact xm
 have hpr:mP x=true:=by
  unfold mP aE
  simp only [aT,decide_eq_true_eq]
  refine ⟨by first|assumption|simp_all,?_⟩
  first|omega|(simp only [aE,aT,decide_eq_true_eq,Bool.not_eq_true,Bool.not_eq_false] at *;omega)
 have hpl:=Ul hpr
 refine dH ?_
 refine jX ?_
 refine rA ?_ (x:=lF pq)
 refine sC ?_
 refine sP [1,2,3,33,34] [1] ?_
 refine sL [1,3,33] [1] (fun k:Nat=>k≤x.Ids.length∧pg x k=true) (fun k:Nat=>[(34,RV.int (k:Int))]) (fun k:Nat=>[]) (fun k:Nat=>x.Ids.length - k) 0 jM cb au ?_
 rintro k ⟨hk,ha⟩
 refine bO ?_
 refine sc ?_ ?_<;>intro hbb
 have hlt:k < x.Ids.length:=ab
 have htl:k < x.adf.length:=ab
 have hrl:k < x.Rows.length:=ab
 refine bA ?_
 refine sT [1,3,33,34] [1] ?_
 refine rM ?_
 refine gu ?_
 refine sP [1,3,4,33,34] [1] ?_
 refine dr ?_
 refine dA 0 ?_ (x:=lF tu)
 refine dA 1 ?_ (x:=lD [sl .v _] ek)
 refine jy ?_
 refine dA 7 ?_ (x:=bT (k:=k) ae ej au jo Gt aj)
 refine dA 15 ?_ (x:=lE [val _] bB)
 refine dA 31 ?_ (x:=cL [(false,[val _]),(false,[val _]),(false,[val _])] [(false,[val _]),(false,[val _]),(false,[val _])] mL (hs:=ma))
 refine dA 63 ?_ (x:=nT)
 refine dA 127 ?_ (x:=sM)
 refine dx 44 (fun gd sgd=>?_) (fun gd sgd=>?_)
 refine dT 255 gd ?_
 refine dT 511 gd ?_
 refine dT 255 gd ?_
 refine dT 2047 gd ?_
 refine dT 4095 gd ?_
 refine dT 255 gd ?_
 refine dT 8447 gd ?_
 refine dT 32767 gd ?_
 refine dT 65535 gd ?_
 refine dA 131071 ?_ (x:=bF gd)
 refine cd ?_
 exact IF
 refine dB 255 gd ?_ (x:=lF tv)
 refine dB 511 gd ?_ (x:=lD [sl .v _] ek)
 refine dB 255 gd ?_ (x:=sM)
 refine dB 2047 gd ?_ (x:=bT (k:=k) ae ej au jo Gt aj)
 refine dB 4095 gd ?_ (x:=lE [val _] bB)
 refine dB 255 gd ?_ (x:=lF Oh)
 refine dB 8447 gd ?_ (x:=lD [val _] bB)
 refine dB 32767 gd ?_ (x:=cL [(false,[val _]),(false,[val _]),(false,[val _])] [(false,[val _]),(false,[val _]),(false,[val _])] mL (hs:=ma))
 refine dB 65535 gd ?_ (x:=nT)
 refine dA 131071 ?_ (x:=aK gd)
 refine sc ?_ ?_<;>intro hbc
 exact IF
 have hyes:pf x k=true:=by simp_all [pf]
 refine bd ?_
 refine sG [1,3,4,33,34] [1] ?_
 refine cf ?_
 refine nx (k+1) (by exact ⟨ab,by rw [Uk,ha,hyes];rfl⟩)
 have hend:k=x.Ids.length:=ab
 rw [hend] at ha
 refine bv ?_
 refine sT [1,3,33,34] [1] ?_
 refine rA ?_ (x:=lF WQ)
 refine qt ?_
 refine cx 59 (fun gd sgd=>?_) (fun gd sgd=>?_)
 refine rB gd ?_ (x:=lF Oh)
 refine Bv ?_
 refine rA ?_ (x:=bF gd)
 exact IG
 refine yb ?_
 exact IG
end Go.Proofs.YtmekkgdboplbjaaGreatDoor
