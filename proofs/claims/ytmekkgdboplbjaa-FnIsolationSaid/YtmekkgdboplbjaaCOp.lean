/- What arguments read as. No condition. -/
import Derived.Test.YtmekkgdboplbjaaCDb
import Derived.Test.YtmekkgdboplbjaaCF2
set_option linter.unusedVariables false
set_option linter.unusedSimpArgs false
namespace Go.Proofs.Ytmekkgdboplbjaa
open Go Go.RowKit M
set_option maxRecDepth 10000
theorem open_U8 : OpenT Try.prog 5 cU8 gdU8 := open_u8 Try.underlying5
theorem open_U8S : OpenT Try.prog 22 (cU8S .v) gdU8S := open_sl (e := 1) (by kernel_rfl) (by kernel_rfl) (by decide) open_U8 (fun _ => rfl)
end Go.Proofs.Ytmekkgdboplbjaa
