/- What functions of the program compute. No condition. -/
import Derived.Test.YtmekkgdboplbjaaGreatCD0
import Derived.Test.YtmekkgdboplbjaaGreatCF0
set_option linter.unusedVariables false
set_option linter.unusedSimpArgs false
namespace Go.Proofs.YtmekkgdboplbjaaGreat
open Go Go.RowKit M PV
set_option maxRecDepth 10000
attribute [local irreducible] PV.Lcl PV.LclR RV.Lcl
theorem Uh {x : List Int}  : aw Tryz.prog 7 [(false, [sl .v (x.map kw)])] (av [(false, [val (.bool (decide (1048576 < (x.length : Int))))])]) := by
 refine sF Tryz.func7 fun h0 w0 Fz0 => ?_
 refine sj 0 fun hl0 => ?_
 refine sR ?_
 refine rK ?_
 refine sS [0, 2] [] ?_
 refine yk ?_
 refine rA ?_ (x := dD)
 refine rS ?_
 exact qi
end Go.Proofs.YtmekkgdboplbjaaGreat
