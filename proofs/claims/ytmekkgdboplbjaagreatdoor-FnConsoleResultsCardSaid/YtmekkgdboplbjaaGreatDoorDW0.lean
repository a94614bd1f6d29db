/- What functions of the program compute. No condition. -/
import Derived.Test.YtmekkgdboplbjaaGreatDoorDR0
set_option linter.all false
namespace Go.Proofs.YtmekkgdboplbjaaGreatDoor
open Go Go.RowKit M PV
set_option maxRecDepth 10000
attribute [local irreducible] PV.Lcl PV.LclR RV.Lcl
def OB{p1 p2:Fl}{s:Store}(hb:eQ s≤68719476736):aS Tryz.prog 71 [(true,[sl .v (s.ac7.map (be p1 p2)),val (vI s.Now)])] (aJ [(false,[val (vI ((pi s:Nat):Int))])]):=by
 refine sF Tryz.func71 fun h0 w0 Fz0=>?_
 refine sn 0 0 fun hl0_0=>?_
 refine rZ ?_
 refine si ?_
 refine gJ ?_
 refine jX ?_
 refine nF ?_
 refine dM ?_
 refine sP [1,2,3,7,8,9] [1] ?_
 refine sL [1,2,7,8] [1] (fun k:Nat=>k≤s.ac7.length) (fun k:Nat=>[(3,RV.int (qK s k:Nat)),(9,RV.int (k:Int))]) (fun k:Nat=>[]) (fun k:Nat=>s.ac7.length - k) 0 ab jm au ?_
 rintro k hk
 refine bO ?_
 refine sc ?_ ?_<;>intro hba
 have hlt:k < s.ac7.length:=ab
 have hcl:=Ux (s:=s) (k+1) hlt
 rw [Nc hlt] at hcl
 have hal:pi s≤eQ s:=yx s
 refine bA ?_
 refine sT [1,2,3,7,8,9] [1] ?_
 refine Cx ?_
 refine sG [1,2,3,5,7,8,9] [1] ?_
 refine rM ?_
 refine Bw ?_
 refine iZ ?_
 refine rS ?_
 refine sG [1,2,3,5,7,8,9] [1] ?_
 refine cf ?_
 refine nx (k+1) ab (e:=(by exact aI (by exact fU (by rw [Nc hlt];omega)) (aI aj tI)))
 have hend:k=s.ac7.length:=ab
 refine bv ?_
 refine sT [1,2,3,7,8,9] [1] ?_
 refine rM ?_
 refine cW ?_
 exact (aI (by refine fU ?_;unfold qK;rw [hend,MU];rfl) tI)
end Go.Proofs.YtmekkgdboplbjaaGreatDoor
