/- What functions of the program compute. No condition. -/
import Derived.Test.YtmekkgdboplbjaaGreatCD0
import Derived.Test.YtmekkgdboplbjaaGreatCF0
set_option linter.all false
namespace Go.Proofs.YtmekkgdboplbjaaGreat
open Go Go.RowKit M PV
set_option maxRecDepth 10000
attribute [local irreducible] PV.Lcl PV.LclR RV.Lcl
def aeo {x : List Int}  : aN Tryz.prog 7 [(false, [sl .v (x.map re)])] (aJ [(false, [val (.bool (decide (1048576 < (x.length : Int))))])]) := by
 refine sF Tryz.func7 fun h0 w0 Fz0 => ?_
 refine sj 0 fun hl0 => ?_
 refine wi ?_
 refine rA ?_ (x := vM false [sl .v _])
 refine rA ?_ (x := lN tS)
 refine rA ?_ (x := dI)
 refine rS ?_
 exact xN
end Go.Proofs.YtmekkgdboplbjaaGreat
