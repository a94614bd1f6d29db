/- What functions of the program compute. No condition. -/
import Derived.Test.YtmekkgdboplbjaaGreatDoorCR0
import Derived.Test.YtmekkgdboplbjaaGreatDoorCS0
set_option linter.all false
namespace Go.Proofs.YtmekkgdboplbjaaGreatDoor
open Go Go.RowKit M PV Tryz
set_option maxRecDepth 10000
attribute [local irreducible] PV.Lcl PV.LclR RV.Lcl
def Ey {x : List bh} {y : List bh}  : aD prog 190 [(false, [sl .v (x.map aV)]), (false, [sl .v (y.map aV)])] (ar [(false, [val (.bool (dh x y))])]) := by
 refine sF func190 fun h0 w0 Fz0 => ?_
 refine sj 0 fun hl0 => ?_
 refine sj 1 fun hl1 => ?_
 refine jt ?_
 refine jl ?_
 refine jl ?_
 refine rA ?_ (x := eQ)
 refine sc ?_ ?_ <;> intro hba
 exact tY
 have hl : x.length = y.length := by omega
 refine nK ?_
 refine jl ?_
 refine im ?_
 refine vq ?_
 rintro k ⟨hk, ha⟩
 refine it ?_
 refine sc ?_ ?_ <;> intro hbb
 have hlt : k < x.length := by omega
 have hlt2 : k < y.length := by omega
 refine dg ?_
 refine sS [0, 1, 12, 13] [] ?_
 refine rM ?_
 refine bZ ?_
 refine sP [0, 1, 5, 12, 13] [] ?_
 refine ce ck ?_
 refine fT ?_
 refine vO ?_
 refine fT ?_
 refine vN ?_
 refine dA 255 ?_ (x := zN [vI _, vI _, vI _] [vI _, vI _, vI _] (by decide) (BD _ _ _ _ _ _ _ _))
 refine sc ?_ ?_ <;> intro hbc
 exact tZ
 refine aK ?_
 refine sG [0, 1, 5, 12, 13] [] ?_
 refine ip ?_
 refine nx (k + 1) (by exact ⟨by omega, qM ha hlt hlt2 (by simp_all [Ba])⟩)
 exact ua
def Ez {x : FY} {y : FY}  : aD prog 111 [(true, [val (vI x.Id), val (vI x.Gc), sl .v (x.FZ.map aV), sl .v (x.Out.map ap)]), (true, [val (vI y.Id), val (vI y.Gc), sl .v (y.FZ.map aV), sl .v (y.Out.map ap)])] (ar [(false, [val (.bool (dh x y))])]) := by
 refine sF func111 fun h0 w0 Fz0 => ?_
 refine sn 0 2 fun hl0_2 => ?_
 refine sn 0 3 fun hl0_3 => ?_
 refine sn 1 2 fun hl1_2 => ?_
 refine sn 1 3 fun hl1_3 => ?_
 refine wq ?_
 refine rK ?_
 refine sT [2, 3, 4] [2, 3] ?_
 refine nj ?_
 refine nj ?_
 refine ft ?_
 refine cx 10 (fun ga sga => ?_) (fun ga sga => ?_)
 refine rB ga ?_ (x := lF gQ)
 refine rB ga ?_ (x := lD [val _] aA)
 refine rB ga ?_ (x := lF gQ)
 refine lj ?_
 refine rM ?_
 refine cx 17 (fun gb sgb => ?_) (fun gb sgb => ?_)
 refine ll ?_
 refine ll ?_
 refine rB gb ?_ (x := cL [(false, [sl _ _]), (false, [sl _ _])] [(false, [sl .v _]), (false, [sl .v _])] Bs (hs := by exact Ey))
 refine cX ?_
 refine cx 24 (fun gc sgc => ?_) (fun gc sgc => ?_)
 refine ni ?_
 refine ni ?_
 refine rB gc ?_ (x := cL [(false, [sl _ _]), (false, [sl _ _])] [(false, [sl .v _]), (false, [sl .v _])] wT (hs := by exact yo))
 refine rA ?_ (x := aG gc)
 exact mO
 refine fq ?_
 exact mO
 refine dr ?_
 refine ai.cases (s := 24) rfl (fun g4 => nomatch g4) (fun g4 => ?_)
 refine lu ?_
 exact mO
 refine eo ?_
 refine ai.cases (s := 17) rfl (fun g5 => nomatch g5) (fun g5 => ?_)
 refine kl ?_
 refine rM ?_
 refine ai.cases (s := 24) rfl (fun g6 => nomatch g6) (fun g6 => ?_)
 refine kn ?_
 exact mO
def EA {x : Ga} {y : Ga}  : aD prog 112 [(true, [val (vI x.Kind), val (vI x.Row.Id), sl .v (x.Row.Values.map ap), val (vI x.Field), val (vI x.Value)]), (true, [val (vI y.Kind), val (vI y.Row.Id), sl .v (y.Row.Values.map ap), val (vI y.Field), val (vI y.Value)])] (ar [(false, [val (.bool (dh x y))])]) := by
 refine sF func112 fun h0 w0 Fz0 => ?_
 refine sn 0 2 fun hl0_2 => ?_
 refine sn 1 2 fun hl1_2 => ?_
 refine wo ?_
 refine rK ?_
 refine sT [2, 3, 4] [2, 3] ?_
 refine lg ?_
 refine lg ?_
 refine ft ?_
 refine cx 10 (fun ga sga => ?_) (fun ga sga => ?_)
 refine rB ga ?_ (x := lF eJ)
 refine rB ga ?_ (x := lD [val _, sl .v _] dV)
 refine rB ga ?_ (x := lF eJ)
 refine rB ga ?_ (x := lD [val _, sl .v _] dV)
 refine rB ga ?_ (x := cL [(true, [val _, sl _ _]), (true, [val _, sl _ _])] [(true, [val _, sl .v _]), (true, [val _, sl .v _])] Bt (hs := by exact Eu))
 refine lC ?_
 refine cx 17 (fun gb sgb => ?_) (fun gb sgb => ?_)
 refine rB gb ?_ (x := lF fz)
 refine rB gb ?_ (x := lD [val _] aA)
 refine nu ?_
 refine cX ?_
 refine cx 24 (fun gc sgc => ?_) (fun gc sgc => ?_)
 refine qz ?_
 refine rB gc ?_ (x := lF gn)
 refine ne ?_
 refine rA ?_ (x := aG gc)
 exact mP
 refine fq ?_
 exact mP
 refine dr ?_
 refine ai.cases (s := 24) rfl (fun g4 => nomatch g4) (fun g4 => ?_)
 refine lu ?_
 exact mP
 refine eo ?_
 refine ai.cases (s := 17) rfl (fun g5 => nomatch g5) (fun g5 => ?_)
 refine kl ?_
 refine rM ?_
 refine ai.cases (s := 24) rfl (fun g6 => nomatch g6) (fun g6 => ?_)
 refine kn ?_
 exact mP
end Go.Proofs.YtmekkgdboplbjaaGreatDoor
