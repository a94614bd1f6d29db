/- What arguments read as. No condition. -/
import Derived.Test.YtmekkgdboplbjaaGreatDoorEE0
set_option linter.all false
namespace Go.Proofs.YtmekkgdboplbjaaGreatDoor
open Go Go.RowKit M
set_option maxRecDepth 10000
def axf:yH Tryz.prog 5 oN ahj:=anw Tryz.underlying5
def axg:yH Tryz.prog 37 (anC .v) anD:=am5 (e:=1) ao ao aj axf (fun _=>rfl)
end Go.Proofs.YtmekkgdboplbjaaGreatDoor
