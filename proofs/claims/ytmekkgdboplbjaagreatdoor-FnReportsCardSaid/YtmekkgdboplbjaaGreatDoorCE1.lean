/- What functions of the program compute. No condition. -/
import Derived.Test.YtmekkgdboplbjaaGreatDoorCD1
set_option linter.all false
namespace Go.Proofs.YtmekkgdboplbjaaGreatDoor
open Go Go.RowKit M PV
set_option maxRecDepth 10000
attribute [local irreducible] PV.Lcl PV.LclR RV.Lcl
def XH  : aN Tryz.prog 226 [] (aF [(false, [sl (.own 23 1) (mJ.map (PP ae))])]) := by
 refine sF Tryz.func226 fun h0 w0 Fz0 => ?_
 refine sR ?_
 refine rA ?_ (x := ki (.inr rfl) (by decide) (lG (t := 23) (e := 1)))
 refine sS [0] [] ?_
 refine zp ?_
 refine zp ?_
 refine zp ?_
 refine rA ?_ (x := bm (qs := [(false, [sl _ _]), (false, [sl _ _]), (false, [sl _ _]), (false, [sl _ _]), (false, [sl _ _]), (false, [sl _ _])]) (by decide) Lo TQ (by decide) rfl rfl rfl rfl rfl (by exact nl rfl) (by exact (aI (by exact tI) (aI (by exact tI) (aI (by exact tI) (aI (by exact tI) (aI (by exact tI) (aI (by exact tI) tI))))))) rfl)
 exact yL
end Go.Proofs.YtmekkgdboplbjaaGreatDoor
