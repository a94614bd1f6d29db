/- What functions of the program compute. No condition. -/
import Derived.Test.YteflgldonmgejaaGreatCDb
import Derived.KernelRfl
set_option linter.unusedVariables false
set_option linter.unusedSimpArgs false
namespace Go.Proofs.YteflgldonmgejaaGreat
open Go Go.RowKit M
set_option maxRecDepth 10000
attribute [local irreducible] PV.Lcl PV.LclR RV.Lcl
end Go.Proofs.YteflgldonmgejaaGreat
