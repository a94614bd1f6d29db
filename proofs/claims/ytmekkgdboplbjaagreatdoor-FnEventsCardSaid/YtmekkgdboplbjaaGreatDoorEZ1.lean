/- What functions of the program compute. No condition. -/
import Derived.Test.YtmekkgdboplbjaaGreatDoorED0
import Derived.Test.YtmekkgdboplbjaaGreatDoorEF0
set_option linter.all false
namespace Go.Proofs.YtmekkgdboplbjaaGreatDoor
open Go Go.RowKit M PV
set_option maxRecDepth 10000
attribute [local irreducible] PV.Lcl PV.LclR RV.Lcl
def axc{x:List Int}:aQ Tryz.prog 14 [(false,[sl .v (x.map oN)])] (aB [(false,[val (.bool (decide (1048576 < (x.length:Int))))])]):=by
 refine sF Tryz.func14 fun h0 w0 Fz0=>?_
 refine sj 0 fun hl0=>?_
 refine wW ?_
 refine dD ?_
 refine rA ?_ (x:=lN pV)
 refine tn ?_
 refine rS ?_
 exact yK
end Go.Proofs.YtmekkgdboplbjaaGreatDoor
