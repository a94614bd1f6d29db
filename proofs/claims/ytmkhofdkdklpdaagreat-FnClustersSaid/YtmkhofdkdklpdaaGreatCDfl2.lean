/- Definitions and their laws. No condition. -/
import Derived.Test.YtmkhofdkdklpdaaGreatCDcd
import Derived.Test.YtmkhofdkdklpdaaGreatCDi
set_option linter.unusedVariables false
set_option linter.unusedSimpArgs false
namespace Go.Proofs.YtmkhofdkdklpdaaGreat
open Go Go.RowKit M
set_option maxRecDepth 10000
theorem parts_wt (c : Cluster) : wtRowSS c.Parts ≤ wtCluster c := by unfold wtCluster; omega
end Go.Proofs.YtmkhofdkdklpdaaGreat
