/- What functions of the program compute. No condition. -/
import Derived.Test.YtmekkgdboplbjaaGreatDoorCD0
import Derived.Test.YtmekkgdboplbjaaGreatDoorCF0
set_option linter.all false
namespace Go.Proofs.YtmekkgdboplbjaaGreatDoor
open Go Go.RowKit M PV
set_option maxRecDepth 10000
attribute [local irreducible] PV.Lcl PV.LclR RV.Lcl
def YD {x : List Int}  : aN Tryz.prog 14 [(false, [sl .v (x.map jL)])] (aF [(false, [val (.bool (decide (1048576 < (x.length : Int))))])]) := by
 refine sF Tryz.func14 fun h0 w0 Fz0 => ?_
 refine sj 0 fun hl0 => ?_
 refine jK ?_
 refine pS ?_
 refine rA ?_ (x := lN qi)
 refine rA ?_ (x := dC)
 refine rS ?_
 exact qQ
end Go.Proofs.YtmekkgdboplbjaaGreatDoor
