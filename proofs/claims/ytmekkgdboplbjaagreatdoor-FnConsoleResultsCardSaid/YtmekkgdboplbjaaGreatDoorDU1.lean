/- What functions of the program compute. No condition. -/
import Derived.Test.YtmekkgdboplbjaaGreatDoorDD0
import Derived.Test.YtmekkgdboplbjaaGreatDoorDF0
import Derived.Test.YtmekkgdboplbjaaGreatDoorDR1
set_option linter.all false
namespace Go.Proofs.YtmekkgdboplbjaaGreatDoor
open Go Go.RowKit M PV
set_option maxRecDepth 10000
attribute [local irreducible] PV.Lcl PV.LclR RV.Lcl
def abU:Tryz.prog.underlying 3=some (.int .i64):=aq
def abV:Tryz.prog.underlying 5=some (.int .u8):=aq
def abW{code:List Int}{i:Int}(hi:0≤i∧i≤1000)(hb:code.length≤1048576):aS Tryz.prog 31 [(false,[sl .v (code.map va)]),(false,[val (vI i)])] (aJ [(false,[val (vI (gC code i))])]):=by
 refine sF Tryz.func31 fun h0 w0 Fz0=>?_
 refine sj 0 fun hl0=>?_
 refine uQ ?_
 refine rM ?_
 refine Co ?_
 refine fx ?_
 refine sc ?_ ?_<;>intro hba
 have hlt:i.toNat < code.length:=ab
 have hr:=aaM (code:=code) (i:=i) hba
 refine sS [0,1,4] [] ?_
 refine iz ?_
 refine rA ?_ (x:=bT (k:=i.toNat) ae Df au ab (by exact iu hlt (by rw [oR (d:=(0:Int)) hlt])) aj)
 refine rA ?_ (x:=lE [val _] WU)
 refine rA ?_ (x:=Hv abV abU rfl)
 exact JS
 have hr:=aaN (code:=code) (i:=i) hba
 refine bd ?_
 refine sS [0,1,4] [] ?_
 refine rM ?_
 refine rA ?_ (x:=Aj ae au (bI rfl) cR)
 refine Co ?_
 refine rA ?_ (x:=Aj ae au (bI rfl) cR)
 refine iZ ?_
 refine CC ?_
 exact JS
end Go.Proofs.YtmekkgdboplbjaaGreatDoor
