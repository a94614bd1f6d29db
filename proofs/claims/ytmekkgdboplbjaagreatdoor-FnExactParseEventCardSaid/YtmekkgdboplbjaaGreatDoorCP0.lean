/- What functions of the program compute. No condition. -/
import Derived.Test.YtmekkgdboplbjaaGreatDoorCN0
set_option linter.all false
namespace Go.Proofs.YtmekkgdboplbjaaGreatDoor
open Go Go.RowKit M PV
set_option maxRecDepth 10000
attribute [local irreducible] PV.Lcl PV.LclR RV.Lcl
def ym {r : Row}  : bI Tryz.prog gl 82 [(true, [val (vI r.Id), sl .v (r.Values.map ap)])] (ar [(false, [val (.string (B (bN r)))])]) := by
 refine ek (rs := [(false, [val (.string (B (bN r)))])]) Tryz.func82 rfl (nl rfl) (cD (ak.cons (bor_val _) (ak.cons (bor_sl _) ak.nil)) cN) ?_
 intro h0 w0 Fz0
 refine sn 0 1 fun hl0_1 => ?_
 refine kc ?_
 refine nD ?_
 refine rA ?_ (x := lD [val _, sl .v _] dV)
 refine rA ?_ (x := cL [(true, [val _, sl _ _])] [(true, [val _, sl .v _])] qP (hs := by exact rD))
 refine rA ?_ (x := nT)
 refine sc ?_ ?_ <;> intro hba
 have hok : ca r = false := by simpa using hba
 refine sS [1, 2, 7000] [1] ?_
 exact tN
 have hok : ca r = true := by simpa using hba
 obtain ⟨hi0, hi1, hvl, hv⟩ := lV hok
 have hil : (itoa r.Id).length ≤ 21 := bl (by unfold aq; omega)
 have hll := iE hv
 refine cg ?_
 refine sP [1, 2, 7000] [1] ?_
 refine ce ck ?_
 refine dA 0 ?_ (x := lF gk)
 refine qc ?_
 refine dA 7 ?_ (x := bX)
 refine dA 0 ?_ (x := lF ix)
 refine dA 16 ?_ (x := lD [sl .v _] fa)
 refine dA 55 ?_ (x := gL [(false, [sl _ _])] [(false, [sl .v _])] yc (hs := by exact (yj hv (by omega))))
 exact tO
def yn {r : Row}  : aD Tryz.prog 32 [(true, [val (vI r.Id), sl .v (r.Values.map ap)])] (ar [(false, [val (.string (B (bN r)))])]) := by
 refine sF Tryz.func32 fun h0 w0 Fz0 => ?_
 refine sn 0 1 fun hl0_1 => ?_
 refine kc ?_
 refine fV ?_
 refine rA ?_ (x := lD [val _, sl .v _] dV)
 refine rA ?_ (x := cL [(true, [val _, sl _ _])] [(true, [val _, sl .v _])] wV (hs := by exact yg))
 refine rA ?_ (x := nT)
 refine sc ?_ ?_ <;> intro hba
 have hok : ca r = false := by simpa using hba
 refine sS [1, 2] [1] ?_
 exact tN
 have hok : ca r = true := by simpa using hba
 obtain ⟨hi0, hi1, hvl, hv⟩ := lV hok
 have hil : (itoa r.Id).length ≤ 21 := bl (by unfold aq; omega)
 have hll := iE hv
 refine cg ?_
 refine sP [1, 2] [1] ?_
 refine ce ck ?_
 refine dA 0 ?_ (x := lF gk)
 refine qd ?_
 refine dA 7 ?_ (x := bX)
 refine dA 0 ?_ (x := lF ix)
 refine dA 16 ?_ (x := lD [sl .v _] fa)
 refine dA 55 ?_ (x := cL [(false, [sl _ _])] [(false, [sl .v _])] yd (hs := by exact (yk hv (by omega))))
 exact tO
end Go.Proofs.YtmekkgdboplbjaaGreatDoor
