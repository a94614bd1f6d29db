/- What functions of the program compute. No condition. -/
import Derived.Test.YtmekkgdboplbjaaGreatDoorRB2
set_option linter.all false
namespace Go.Proofs.YtmekkgdboplbjaaGreatDoor
open Go Go.RowKit M PV
set_option maxRecDepth 10000
attribute [local irreducible] PV.Lcl PV.LclR RV.Lcl
set_option maxHeartbeats 8000000
def aB7:Tryz.prog.underlying 9=some .string:=au
def aB8{s:an}:et Tryz.prog gl 7 [(false,[val (.string (B s))])] (aA [(false,[val (.bool true)])]):=by
 refine im (rs:=[(false,[val (.bool true)])]) Tryz.func7 rfl (nl rfl) (jI (aW.cons (bor_val _) aW.nil) kJ) ?_
 intro h0 w0 Fz0
 refine sR ?_
 refine dp ?_
 refine sS [0,2,7000] [] ?_
 refine rM ?_
 refine rA ?_ (x:=pg aB7)
 refine ov ?_
 refine sc ?_ ?_<;>intro hba
 refine sS [0,2,7000] [] ?_
 refine rK ?_
 exact Cq
 have hsl:s.length≤1048576:=ab
 refine aK ?_
 refine sS [0,2,7000] [] ?_
 refine rM ?_
 refine rA ?_ (x:=cL aM aM au7 (hs:=by exact (aB6 ab)))
 refine rS ?_
 refine tU ?_
 refine rM ?_
 refine rA ?_ (x:=gL aM aM au1 (hs:=by exact (aBN ab)))
 refine dr ?_
 refine sS [0,2,3,4,7000] [] ?_
 refine gn ?_
 refine rA ?_ (x:=to)
 refine sc ?_ ?_<;>intro hbb
 exact absurd hbb aP
 refine aK ?_
 refine sS [0,2,3,4,7000] [] ?_
 refine rK ?_
 exact Cq
end Go.Proofs.YtmekkgdboplbjaaGreatDoor
