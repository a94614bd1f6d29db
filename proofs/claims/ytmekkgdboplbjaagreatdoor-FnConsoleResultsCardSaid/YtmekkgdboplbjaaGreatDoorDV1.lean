/- What functions of the program compute. No condition. -/
import Derived.Test.YtmekkgdboplbjaaGreatDoorDD0
import Derived.Test.YtmekkgdboplbjaaGreatDoorDF0
set_option linter.all false
namespace Go.Proofs.YtmekkgdboplbjaaGreatDoor
open Go Go.RowKit M PV
set_option maxRecDepth 10000
attribute [local irreducible] PV.Lcl PV.LclR RV.Lcl
def abX{x:List Int}:aS Tryz.prog 14 [(false,[sl .v (x.map va)])] (aJ [(false,[val (.bool (decide (1048576 < (x.length:Int))))])]):=by
 refine sF Tryz.func14 fun h0 w0 Fz0=>?_
 refine sj 0 fun hl0=>?_
 refine mx ?_
 refine kF ?_
 refine Co ?_
 refine rA ?_ (x:=fH)
 exact ut
end Go.Proofs.YtmekkgdboplbjaaGreatDoor
