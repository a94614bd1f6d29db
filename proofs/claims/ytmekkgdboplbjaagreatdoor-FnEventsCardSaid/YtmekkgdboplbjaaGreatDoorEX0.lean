/- What functions of the program compute. No condition. -/
import Derived.Test.YtmekkgdboplbjaaGreatDoorEU0
set_option linter.all false
namespace Go.Proofs.YtmekkgdboplbjaaGreatDoor
open Go Go.RowKit M PV
set_option maxRecDepth 10000
attribute [local irreducible] PV.Lcl PV.LclR RV.Lcl
def ajz{p1 p2:Fl}{s:Store}(hb:cg s≤68719476736):aQ Tryz.prog 71 [(true,[sl .v (s.ax2.map (aO p1 p2)),val (vI s.Now)])] (aB [(false,[val (vI ((vm s:Nat):Int))])]):=by
 refine sF Tryz.func71 fun h0 w0 Fz0=>?_
 refine sn 0 0 fun hl0_0=>?_
 refine kN ?_
 refine uI ?_
 refine iv ?_
 refine pJ ?_
 refine mP ?_
 refine fK ?_
 refine sP [1,2,3,7,8,9] [1] ?_
 refine sL [1,2,7,8] [1] (fun k:Nat=>k≤s.ax2.length) (fun k:Nat=>[(3,RV.int (xI s k:Nat)),(9,RV.int (k:Int))]) (fun k:Nat=>[]) (fun k:Nat=>s.ax2.length - k) 0 ab gp an ?_
 rintro k hk
 refine cY ?_
 refine sc ?_ ?_<;>intro hba
 have hlt:k < s.ax2.length:=ab
 have hcl:=ao1 (s:=s) (k+1) hlt
 rw [ah1 hlt] at hcl
 have hal:vm s≤cg s:=vg s
 refine bv ?_
 refine sT [1,2,3,7,8,9] [1] ?_
 refine Qm ?_
 refine sG [1,2,3,5,7,8,9] [1] ?_
 refine rM ?_
 refine qX ?_
 refine wU ?_
 refine sG [1,2,3,5,7,8,9] [1] ?_
 refine dI ?_
 refine nx (k+1) ab (e:=(by exact aI (by exact cX (by rw [ah1 hlt];omega)) (aI ak tI)))
 have hend:k=s.ax2.length:=ab
 refine bI ?_
 refine sT [1,2,3,7,8,9] [1] ?_
 refine rM ?_
 refine db ?_
 exact (aI (by refine cX ?_;unfold xI;rw [hend,Rl];rfl) tI)
end Go.Proofs.YtmekkgdboplbjaaGreatDoor
