/- What functions of the program compute. No condition. -/
import Derived.Test.YtmekkgdboplbjaaCZMFnIsolation
import Derived.Test.YtmekkgdboplbjaaCFcFnIsolation
import Derived.Test.YtmekkgdboplbjaaCDb
import Derived.KernelRfl
set_option linter.unusedVariables false
set_option linter.unusedSimpArgs false
namespace Go.Proofs.Ytmekkgdboplbjaa
open Go Go.RowKit M PV
set_option maxRecDepth 10000
attribute [local irreducible] PV.Lcl PV.LclR RV.Lcl
theorem laws_big {x : List Int}  : SCall Try.prog 4 [(false, [sl .v (x.map cU8)])] (resRV [(false, [val (.bool (decide (1048576 < (x.length : Int))))])]) := by
 refine sF Try.func4 fun h0 w0 Fz0 => ?_
 refine sj 0 fun hl0 => ?_
 refine sR ?_
 refine rK ?_
 refine sS [0, 2] [] ?_
 refine zjy ?_
 refine rA ?_ (x := B_gtr)
 refine rS ?_
 exact zad
end Go.Proofs.Ytmekkgdboplbjaa
