/- What functions of the program compute. No condition. -/
import Derived.Test.YtmekkgdboplbjaaGreatCF1
set_option linter.unusedVariables false
set_option linter.unusedSimpArgs false
namespace Go.Proofs.YtmekkgdboplbjaaGreat
open Go Go.RowKit M PV
set_option maxRecDepth 10000
attribute [local irreducible] PV.Lcl PV.LclR RV.Lcl
end Go.Proofs.YtmekkgdboplbjaaGreat
