/- What functions of the program compute. No condition. -/
import Derived.Test.YtmekkgdboplbjaaGreatCL0
set_option linter.all false
namespace Go.Proofs.YtmekkgdboplbjaaGreat
open Go Go.RowKit M PV Tryz
set_option maxRecDepth 10000
attribute [local irreducible] PV.Lcl PV.LclR RV.Lcl
def TX {x : List Int} {y : List Int}  : aC prog 56 [(false, [sl .v (x.map ak)]), (false, [sl .v (y.map ak)])] (az [(false, [val (.bool (dh x y))])]) := by
 refine sF func56 fun h0 w0 Fz0 => ?_
 refine sj 0 fun hl0 => ?_
 refine sj 1 fun hl1 => ?_
 refine ta ?_
 refine iV ?_
 refine vW ?_
 refine sc (fun hba => ?_) (fun hba => ?_)
 exact x9
 have hl : x.length = y.length := by omega
 refine mF ?_
 rintro k ⟨hk, ha⟩
 refine jl ?_
 refine sc (fun hbb => ?_) (fun hbb => ?_)
 have hlt : k < x.length := by omega
 have hlt2 : k < y.length := by omega
 refine lJ ?_
 refine qE ?_
 refine eE ?_
 refine yX ?_
 refine dA 255 ?_ (x := eM)
 refine sc (fun hbc => ?_) (fun hbc => ?_)
 refine sS [0, 1, 5] [] ?_
 exact ya
 refine kF ?_
 exact D8
 exact mm
def Lh {x : List Int} {y : List Int}  : aC prog 256 [(false, [sl .v (x.map ak)]), (false, [sl .v (y.map ak)])] (az [(false, [val (.bool (dh x y))])]) := by
 refine sF func256 fun h0 w0 Fz0 => ?_
 refine sj 0 fun hl0 => ?_
 refine sj 1 fun hl1 => ?_
 refine ta ?_
 refine iV ?_
 refine vW ?_
 refine sc (fun hba => ?_) (fun hba => ?_)
 exact x9
 have hl : x.length = y.length := by omega
 refine cO ?_
 refine sS [0, 1, 4] [] ?_
 refine iV ?_
 refine dI ?_
 refine GN ?_
 rintro k ⟨hk, ha⟩
 refine ct ?_
 refine sc (fun hbb => ?_) (fun hbb => ?_)
 have hlt : k < x.length := by omega
 have hlt2 : k < y.length := by omega
 refine bB ?_
 refine sS [0, 1, 12, 13] [] ?_
 refine rM ?_
 refine fA ?_
 refine sP [0, 1, 5, 12, 13] [] ?_
 refine nN ?_
 refine qE ?_
 refine eE ?_
 refine yX ?_
 refine dA 255 ?_ (x := eM)
 refine sc (fun hbc => ?_) (fun hbc => ?_)
 refine sS [0, 1, 5, 12, 13] [] ?_
 exact ya
 refine bl ?_
 refine sG [0, 1, 5, 12, 13] [] ?_
 refine c0 ?_
 exact D8
 exact D9
def TY {x : Row} {y : Row}  : aC prog 257 [(true, [val (vI x.Id), sl .v (x.Values.map ak)]), (true, [val (vI y.Id), sl .v (y.Values.map ak)])] (az [(false, [val (.bool (dh x y))])]) := by
 refine sF func257 fun h0 w0 Fz0 => ?_
 refine sn 0 1 fun hl0_1 => ?_
 refine sn 1 1 fun hl1_1 => ?_
 refine IR ?_
 refine qT ?_
 refine rA ?_ (x := lF jw)
 refine zX ?_
 refine pB ?_
 refine cx 10 (fun ga sga => ?_) (fun ga sga => ?_)
 refine qJ ?_
 refine qJ ?_
 refine rB ga ?_ (x := cL [(false, [sl _ _]), (false, [sl _ _])] [(false, [sl .v _]), (false, [sl .v _])] JA (hs := by exact Lh))
 refine rA ?_ (x := aR ga)
 exact Ea
 refine lu ?_
 exact Ea
end Go.Proofs.YtmekkgdboplbjaaGreat
