/- What functions of the program compute. No condition. -/
import Derived.Test.YtmkhofdkdklpdaaGreatCZMFnClusters
import Derived.Test.YtmkhofdkdklpdaaGreatCFcFnClusters
import Derived.Test.YtmkhofdkdklpdaaGreatCDrcFnClusters
import Derived.KernelRfl
set_option linter.unusedVariables false
set_option linter.unusedSimpArgs false
namespace Go.Proofs.YtmkhofdkdklpdaaGreat
open Go Go.RowKit M PV
set_option maxRecDepth 10000
attribute [local irreducible] PV.Lcl PV.LclR RV.Lcl
theorem laws_big {x : List Int}  : SCall Tryz.prog 5 [(false, [sl .v (x.map cU8)])] (resRV [(false, [val (.bool (decide (1048576 < (x.length : Int))))])]) := by
 refine sF Tryz.func5 fun h0 w0 Fz0 => ?_
 refine sj 0 fun hl0 => ?_
 refine za0 ?_
 refine za1 ?_
 refine rA ?_ (x := lN sl_22)
 refine rA ?_ (x := B_gtr)
 refine rS ?_
 exact zbw
end Go.Proofs.YtmkhofdkdklpdaaGreat
