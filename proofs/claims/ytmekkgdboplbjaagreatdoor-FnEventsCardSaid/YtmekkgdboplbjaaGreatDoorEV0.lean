/- What functions of the program compute. No condition. -/
import Derived.Test.YtmekkgdboplbjaaGreatDoorEP0
set_option linter.all false
namespace Go.Proofs.YtmekkgdboplbjaaGreatDoor
open Go Go.RowKit M PV
set_option maxRecDepth 10000
attribute [local irreducible] PV.Lcl PV.LclR RV.Lcl
def ajt{x:ax4}(hb:fM x≤68719476736):aQ Tryz.prog 199 [(true,[val (vI x.Id),val (vI x.ax8),sl .v (x.ax5.map bF),sl .v (x.Out.map ar)])] (aB [(true,[val (vI x.Id),val (vI x.ax8),sl aH (x.ax5.map bF),sl ai (x.Out.map ar)])]):=by
 refine sF Tryz.func199 fun h0 w0 Fz0=>?_
 refine sn 0 2 fun hl0_2=>?_
 refine sn 0 3 fun hl0_3=>?_
 have hbu:=hb
 simp only [fM,gj,bo,Ah] at hbu
 refine py ?_
 refine IJ ?_
 refine sT [1,2] [1,2] ?_
 refine rA ?_ (x:=cj (qs:=[]) aj il nU aj rfl rfl rfl rfl rfl az an rfl)
 refine xp ?_
 refine rA ?_ (x:=lD [sl .v _] kp)
 refine rA ?_ (x:=lU aj il nU rfl rfl aj oo Uh bq bq)
 refine zo2 ?_
 refine aU ?_
 refine zo3 ?_
 refine PI ?_
 refine rA ?_ (x:=cL [(false,[sl _ _])] [(false,[sl .v _])] uZ (hs:=uj))
 refine rA ?_ (x:=lF rr)
 refine Cj ?_
 refine zo3 ?_
 refine NF ?_
 exact YH
end Go.Proofs.YtmekkgdboplbjaaGreatDoor
