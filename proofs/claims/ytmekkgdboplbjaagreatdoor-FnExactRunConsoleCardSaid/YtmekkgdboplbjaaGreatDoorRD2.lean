/- What arguments read as. No condition. -/
import Derived.Test.YtmekkgdboplbjaaGreatDoorRE0
set_option linter.all false
namespace Go.Proofs.YtmekkgdboplbjaaGreatDoor
open Go Go.RowKit M
set_option maxRecDepth 10000
def aB9:Hn Tryz.prog 9 fm arH:=aqS Tryz.underlying9
end Go.Proofs.YtmekkgdboplbjaaGreatDoor
