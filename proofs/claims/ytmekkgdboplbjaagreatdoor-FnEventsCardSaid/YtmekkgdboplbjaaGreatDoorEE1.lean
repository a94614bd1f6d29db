/- What functions of the program compute. No condition. -/
import Derived.Test.YtmekkgdboplbjaaGreatDoorED1
set_option linter.all false
namespace Go.Proofs.YtmekkgdboplbjaaGreatDoor
open Go Go.RowKit M PV
set_option maxRecDepth 10000
attribute [local irreducible] PV.Lcl PV.LclR RV.Lcl
def aui  : aQ Tryz.prog 226 [] (aB [(false,[sl (.own 23 1) (rz.map (anE ai))])]):=by
 refine sF Tryz.func226 fun h0 w0 Fz0=>?_
 refine sR ?_
 refine rA ?_ (x:=nw (.inr rfl) aj (pk (t:=23) (e:=1)))
 refine sS [0] [] ?_
 refine ND ?_
 refine ND ?_
 refine ND ?_
 refine rA ?_ (x:=cj (qs:=[(false,[sl _ _]),(false,[sl _ _]),(false,[sl _ _]),(false,[sl _ _]),(false,[sl _ _]),(false,[sl _ _])]) aj ai0 aq5 aj rfl rfl rfl rfl rfl az (by exact (aI an (aI an (aI an (aI an (aI an (aI an tI))))))) rfl)
 refine dJ ?_
 exact yK
end Go.Proofs.YtmekkgdboplbjaaGreatDoor
