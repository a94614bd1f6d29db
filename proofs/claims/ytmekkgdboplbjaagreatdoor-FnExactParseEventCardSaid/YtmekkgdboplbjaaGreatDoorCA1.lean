/- What arguments read as. No condition. -/
import Derived.Test.YtmekkgdboplbjaaGreatDoorCE0
set_option linter.all false
namespace Go.Proofs.YtmekkgdboplbjaaGreatDoor
open Go Go.RowKit M
set_option maxRecDepth 10000
def ER : mI Tryz.prog 9 et AX := Aj Tryz.underlying9
end Go.Proofs.YtmekkgdboplbjaaGreatDoor
