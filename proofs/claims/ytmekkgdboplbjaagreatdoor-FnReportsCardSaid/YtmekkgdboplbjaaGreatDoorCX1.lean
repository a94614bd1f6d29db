/- What arguments read as. No condition. -/
import Derived.Test.YtmekkgdboplbjaaGreatDoorCE0
set_option linter.all false
namespace Go.Proofs.YtmekkgdboplbjaaGreatDoor
open Go Go.RowKit M
set_option maxRecDepth 10000
def YL : qP Tryz.prog 5 jL JK := PC Tryz.underlying5
def YM : qP Tryz.prog 37 (PN .v) PO := Pc (e := 1) (by kernel_rfl) (by kernel_rfl) (by decide) YL (fun _ => rfl)
end Go.Proofs.YtmekkgdboplbjaaGreatDoor
