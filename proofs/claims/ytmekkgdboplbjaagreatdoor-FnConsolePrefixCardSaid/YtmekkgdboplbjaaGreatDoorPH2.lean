/- What arguments read as. No condition. -/
import Derived.Test.YtmekkgdboplbjaaGreatDoorPE0
import Derived.Test.YtmekkgdboplbjaaGreatDoorPR0
set_option linter.all false
namespace Go.Proofs.YtmekkgdboplbjaaGreatDoor
open Go Go.RowKit M
set_option maxRecDepth 10000
def aIA:Bs Tryz.prog 5 xX ao4:=aA9 Tryz.underlying5
def aIB:Bs Tryz.prog 37 (aww .v) awx:=av7 (e:=1) ao ao ai aIA (fun _=>rfl)
end Go.Proofs.YtmekkgdboplbjaaGreatDoor
