/- What functions of the program compute. No condition. -/
import Derived.Test.YtmekkgdboplbjaaGreatDoorCL0
set_option linter.all false
namespace Go.Proofs.YtmekkgdboplbjaaGreatDoor
open Go Go.RowKit M PV
set_option maxRecDepth 10000
attribute [local irreducible] PV.Lcl PV.LclR RV.Lcl
def yo {x : List Int} {y : List Int}  : aD Tryz.prog 191 [(false, [sl .v (x.map ap)]), (false, [sl .v (y.map ap)])] (ar [(false, [val (.bool (dh x y))])]) := by
 refine sF Tryz.func191 fun h0 w0 Fz0 => ?_
 refine sj 0 fun hl0 => ?_
 refine sj 1 fun hl1 => ?_
 refine jt ?_
 refine ij ?_
 refine ij ?_
 refine rA ?_ (x := eQ)
 refine sc ?_ ?_ <;> intro hba
 exact tY
 have hl : x.length = y.length := by omega
 refine nK ?_
 refine ij ?_
 refine im ?_
 refine vq ?_
 rintro k ⟨hk, ha⟩
 refine it ?_
 refine sc ?_ ?_ <;> intro hbb
 have hlt : k < x.length := by omega
 have hlt2 : k < y.length := by omega
 refine dg ?_
 refine sS [0, 1, 12, 13] [] ?_
 refine rM ?_
 refine bZ ?_
 refine sP [0, 1, 5, 12, 13] [] ?_
 refine ce ck ?_
 refine fT ?_
 refine wa ?_
 refine fT ?_
 refine vY ?_
 refine dA 255 ?_ (x := eQ)
 refine sc ?_ ?_ <;> intro hbc
 exact tZ
 refine aK ?_
 refine sG [0, 1, 5, 12, 13] [] ?_
 refine ip ?_
 refine nx (k + 1) (by exact ⟨by omega, qM ha hlt hlt2 (by simp_all)⟩)
 exact ua
def Eu {x : Row} {y : Row}  : aD Tryz.prog 192 [(true, [val (vI x.Id), sl .v (x.Values.map ap)]), (true, [val (vI y.Id), sl .v (y.Values.map ap)])] (ar [(false, [val (.bool (dh x y))])]) := by
 refine sF Tryz.func192 fun h0 w0 Fz0 => ?_
 refine sn 0 1 fun hl0_1 => ?_
 refine sn 1 1 fun hl1_1 => ?_
 refine ww ?_
 refine rK ?_
 refine sT [2, 3, 4] [2, 3] ?_
 refine qE ?_
 refine qE ?_
 refine ft ?_
 refine cx 10 (fun ga sga => ?_) (fun ga sga => ?_)
 refine pZ ?_
 refine pZ ?_
 refine rB ga ?_ (x := cL [(false, [sl _ _]), (false, [sl _ _])] [(false, [sl .v _]), (false, [sl .v _])] wT (hs := by exact yo))
 refine rA ?_ (x := aG ga)
 exact ub
 refine fp ?_
 exact ub
end Go.Proofs.YtmekkgdboplbjaaGreatDoor
