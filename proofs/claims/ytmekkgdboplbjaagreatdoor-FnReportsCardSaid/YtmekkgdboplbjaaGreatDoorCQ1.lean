/- What functions of the program compute. No condition. -/
import Derived.Test.YtmekkgdboplbjaaGreatDoorCR0
import Derived.Test.YtmekkgdboplbjaaGreatDoorCO1
set_option linter.all false
namespace Go.Proofs.YtmekkgdboplbjaaGreatDoor
open Go Go.RowKit M PV
set_option maxRecDepth 10000
attribute [local irreducible] PV.Lcl PV.LclR RV.Lcl
def Yr {r : Row}  : iu Tryz.prog gl 82 [(true, [val (vI r.Id), sl .v (r.Values.map an)])] (aF [(false, [val (.string (B (pt r)))])]) := by
 refine nt (rs := [(false, [val (.string (B (pt r)))])]) Tryz.func82 rfl (nl rfl) (bV (ab.cons (bor_val _) (ab.cons (bor_sl _) ab.nil)) bH) ?_
 intro h0 w0 Fz0
 refine sn 0 1 fun hl0_1 => ?_
 refine tg ?_
 refine eD ?_
 refine sT [1, 2, 7000] [1] ?_
 refine Jb ?_
 refine rA ?_ (x := nT)
 refine sc (fun hba => ?_) (fun hba => ?_)
 have hok : bp r = false := by simpa using hba
 refine sS [1, 2, 7000] [1] ?_
 exact GX
 have hok : bp r = true := by simpa using hba
 obtain ⟨hi0, hi1, hvl, hv⟩ := ox hok
 have hil : (itoa r.Id).length ≤ 21 := cy (by unfold aQ; omega)
 have hll := pb hv
 refine eA ?_
 refine sP [1, 2, 7000] [1] ?_
 refine cv cd ?_
 refine dA 0 ?_ (x := lF jO)
 refine IX ?_
 refine dA 7 ?_ (x := dN)
 refine dA 0 ?_ (x := lF ia)
 refine dA 16 ?_ (x := lD [sl .v _] bz)
 refine dA 55 ?_ (x := gL [(false, [sl _ _])] [(false, [sl .v _])] Lh (hs := by exact (LI hv (by omega))))
 exact GY
def Ys {r : Row}  : aN Tryz.prog 32 [(true, [val (vI r.Id), sl .v (r.Values.map an)])] (aF [(false, [val (.string (B (pt r)))])]) := by
 refine sF Tryz.func32 fun h0 w0 Fz0 => ?_
 refine sn 0 1 fun hl0_1 => ?_
 refine tg ?_
 refine iY ?_
 refine Je ?_
 refine rA ?_ (x := nT)
 refine sc (fun hba => ?_) (fun hba => ?_)
 have hok : bp r = false := by simpa using hba
 refine sS [1, 2] [1] ?_
 exact GX
 have hok : bp r = true := by simpa using hba
 obtain ⟨hi0, hi1, hvl, hv⟩ := ox hok
 have hil : (itoa r.Id).length ≤ 21 := cy (by unfold aQ; omega)
 have hll := pb hv
 refine eA ?_
 refine sP [1, 2] [1] ?_
 refine cv cd ?_
 refine dA 0 ?_ (x := lF jO)
 refine IY ?_
 refine dA 7 ?_ (x := dN)
 refine dA 0 ?_ (x := lF ia)
 refine dA 16 ?_ (x := lD [sl .v _] bz)
 refine dA 55 ?_ (x := cL [(false, [sl _ _])] [(false, [sl .v _])] Li (hs := by exact (LJ hv (by omega))))
 exact GY
end Go.Proofs.YtmekkgdboplbjaaGreatDoor
