/- What functions of the program compute. No condition. -/
import Derived.Test.YtmekkgdboplbjaaGreatCL0
set_option linter.all false
namespace Go.Proofs.YtmekkgdboplbjaaGreat
open Go Go.RowKit M PV Tryz
set_option maxRecDepth 10000
attribute [local irreducible] PV.Lcl PV.LclR RV.Lcl
def ZB {x : List Int} {y : List Int}  : aB prog 56 [(false, [sl .v (x.map ak)]), (false, [sl .v (y.map ak)])] (aA [(false, [val (.bool (du x y))])]) := by
 refine sF func56 fun h0 w0 Fz0 => ?_
 refine sj 0 fun hl0 => ?_
 refine sj 1 fun hl1 => ?_
 refine px ?_
 refine uF ?_
 refine xO ?_
 refine sc (fun hba => ?_) (fun hba => ?_)
 exact Aa
 have hl : x.length = y.length := by omega
 refine mT ?_
 rintro k ⟨hk, ha⟩
 refine jX ?_
 refine sc (fun hbb => ?_) (fun hbb => ?_)
 have hlt : k < x.length := by omega
 have hlt2 : k < y.length := by omega
 refine lW ?_
 refine sb ?_
 refine eY ?_
 refine AY ?_
 refine dA 255 ?_ (x := eX)
 refine sc (fun hbc => ?_) (fun hbc => ?_)
 refine sS [0, 1, 5] [] ?_
 exact Ab
 refine kZ ?_
 exact GS
 exact mK
def Pj {x : List Int} {y : List Int}  : aB prog 256 [(false, [sl .v (x.map ak)]), (false, [sl .v (y.map ak)])] (aA [(false, [val (.bool (du x y))])]) := by
 refine sF func256 fun h0 w0 Fz0 => ?_
 refine sj 0 fun hl0 => ?_
 refine sj 1 fun hl1 => ?_
 refine px ?_
 refine uF ?_
 refine xO ?_
 refine sc (fun hba => ?_) (fun hba => ?_)
 exact Aa
 have hl : x.length = y.length := by omega
 refine dt ?_
 refine uF ?_
 refine dZ ?_
 refine JL ?_
 rintro k ⟨hk, ha⟩
 refine cF ?_
 refine sc (fun hbb => ?_) (fun hbb => ?_)
 have hlt : k < x.length := by omega
 have hlt2 : k < y.length := by omega
 refine bB ?_
 refine sS [0, 1, 12, 13] [] ?_
 refine rM ?_
 refine eZ ?_
 refine sP [0, 1, 5, 12, 13] [] ?_
 refine pA ?_
 refine sb ?_
 refine eY ?_
 refine AY ?_
 refine dA 255 ?_ (x := eX)
 refine sc (fun hbc => ?_) (fun hbc => ?_)
 refine sS [0, 1, 5, 12, 13] [] ?_
 exact Ab
 refine bm ?_
 refine sG [0, 1, 5, 12, 13] [] ?_
 refine df ?_
 exact GS
 exact GT
def ZC {x : Row} {y : Row}  : aB prog 257 [(true, [val (vI x.Id), sl .v (x.Values.map ak)]), (true, [val (vI y.Id), sl .v (y.Values.map ak)])] (aA [(false, [val (.bool (du x y))])]) := by
 refine sF func257 fun h0 w0 Fz0 => ?_
 refine sn 0 1 fun hl0_1 => ?_
 refine sn 1 1 fun hl1_1 => ?_
 refine Mm ?_
 refine sx ?_
 refine rA ?_ (x := lF kk)
 refine BU ?_
 refine qX ?_
 refine cx 10 (fun ga sga => ?_) (fun ga sga => ?_)
 refine sg ?_
 refine sg ?_
 refine rB ga ?_ (x := cL [(false, [sl _ _]), (false, [sl _ _])] [(false, [sl .v _]), (false, [sl .v _])] Nf (hs := by exact Pj))
 refine rA ?_ (x := aT ga)
 exact GU
 refine mL ?_
 exact GU
end Go.Proofs.YtmekkgdboplbjaaGreat
