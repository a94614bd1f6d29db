/- What functions of the program compute. No condition. -/
import Derived.Test.YteflgldonmgejaaGreatCZMChooseOrder
import Derived.Test.YteflgldonmgejaaGreatCFcChooseOrder
import Derived.Test.YteflgldonmgejaaGreatCPrbChooseOrder
import Derived.KernelRfl
set_option linter.unusedVariables false
set_option linter.unusedSimpArgs false
namespace Go.Proofs.YteflgldonmgejaaGreat
open Go Go.RowKit M PV
set_option maxRecDepth 10000
attribute [local irreducible] PV.Lcl PV.LclR RV.Lcl
theorem spec_l6Orders  : SCall Tryz.prog 131 [] (resRV [(false, [sl (.own 25 1) (ordersL.map (cIntS (.own 3 1)))])]) := by
 refine sF Tryz.func131 fun h0 w0 Fz0 => ?_
 refine sR ?_
 refine rA ?_ (x := loc_const (.inr rfl) (by decide) (ok_nil (t := 25) (e := 1)))
 refine sS [0] [] ?_
 refine zlh ?_
 refine zlh ?_
 refine zli ?_
 exact zb7
end Go.Proofs.YteflgldonmgejaaGreat
