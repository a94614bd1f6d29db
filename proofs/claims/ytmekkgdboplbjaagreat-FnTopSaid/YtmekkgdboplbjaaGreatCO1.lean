/- What arguments read as. No condition. -/
import Derived.Test.YtmekkgdboplbjaaGreatCE0
set_option linter.all false
namespace Go.Proofs.YtmekkgdboplbjaaGreat
open Go Go.RowKit M
set_option maxRecDepth 10000
def aer : si Tryz.prog 5 re Qb := VY Tryz.underlying5
def aes : si Tryz.prog 22 (Wc .v) Wd := VC (e := 1) (by kernel_rfl) (by kernel_rfl) (by decide) aer (fun _ => rfl)
end Go.Proofs.YtmekkgdboplbjaaGreat
