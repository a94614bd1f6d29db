/- What arguments read as. No condition. -/
import Derived.Test.YtmekkgdboplbjaaGreatCE0
set_option linter.unusedVariables false
set_option linter.unusedSimpArgs false
namespace Go.Proofs.YtmekkgdboplbjaaGreat
open Go Go.RowKit M
set_option maxRecDepth 10000
theorem Uj : ou Tryz.prog 5 kw Iq := Ny Tryz.underlying5
theorem Uk : ou Tryz.prog 22 (NB .v) NC := Nd (e := 1) (by kernel_rfl) (by kernel_rfl) (by decide) Uj (fun _ => rfl)
end Go.Proofs.YtmekkgdboplbjaaGreat
