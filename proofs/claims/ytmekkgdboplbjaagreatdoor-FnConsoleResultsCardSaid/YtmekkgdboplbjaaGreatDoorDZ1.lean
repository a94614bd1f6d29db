/- What arguments read as. No condition. -/
import Derived.Test.YtmekkgdboplbjaaGreatDoorDE0
set_option linter.all false
namespace Go.Proofs.YtmekkgdboplbjaaGreatDoor
open Go Go.RowKit M
set_option maxRecDepth 10000
def ab7:rR Tryz.prog 5 va MF:=Tc Tryz.underlying5
def ab8:rR Tryz.prog 37 (Ty .v) Tz:=SE (e:=1) aq aq ae ab7 (fun _=>rfl)
end Go.Proofs.YtmekkgdboplbjaaGreatDoor
