/- What functions of the program compute. No condition. -/
import Derived.Test.YtmekkgdboplbjaaGreatDoorDP0
set_option linter.all false
namespace Go.Proofs.YtmekkgdboplbjaaGreatDoor
open Go Go.RowKit M PV
set_option maxRecDepth 10000
attribute [local irreducible] PV.Lcl PV.LclR RV.Lcl
def PD{r:Row}:db Tryz.prog gl 82 [(true,[val (vI r.Id),sl .v (r.Values.map ax)])] (aJ [(false,[val (.string (B (dN r)))])]):=by
 refine gq (rs:=[(false,[val (.string (B (dN r)))])]) Tryz.func82 rfl (nl rfl) (gV (aB.cons (bor_val _) (aB.cons (bor_sl _) aB.nil)) iv) ?_
 intro h0 w0 Fz0
 refine sn 0 1 fun hl0_1=>?_
 refine qg ?_
 refine uM ?_
 refine xG ?_
 refine fw ?_
 refine sc ?_ ?_<;>intro hba
 have hok:bf r=false:=gp
 refine oQ ?_
 exact Jn
 have hok:bf r=true:=gp
 obtain ⟨hi0,hi1,hvl,hv⟩:=mX hok
 have hil:(itoa r.Id).length≤21:=dj cR
 have hll:=mO hv
 refine dH ?_
 refine sP [1,2,7000] [1] ?_
 refine dr ?_
 refine dA 0 ?_ (x:=lF mM)
 refine BJ ?_
 refine dA 7 ?_ (x:=dL)
 refine dA 0 ?_ (x:=lF lI)
 refine dA 16 ?_ (x:=lD [sl .v _] ek)
 refine dA 55 ?_ (x:=gL [(false,[sl _ _])] [(false,[sl .v _])] DQ (hs:=by exact (Ek hv ab)))
 exact Jo
def ZM{r:Row}:aS Tryz.prog 32 [(true,[val (vI r.Id),sl .v (r.Values.map ax)])] (aJ [(false,[val (.string (B (dN r)))])]):=by
 refine sF Tryz.func32 fun h0 w0 Fz0=>?_
 refine sn 0 1 fun hl0_1=>?_
 refine qg ?_
 refine oG ?_
 refine BN ?_
 refine fw ?_
 refine sc ?_ ?_<;>intro hba
 have hok:bf r=false:=gp
 refine sS [1,2] [1] ?_
 exact Jn
 have hok:bf r=true:=gp
 obtain ⟨hi0,hi1,hvl,hv⟩:=mX hok
 have hil:(itoa r.Id).length≤21:=dj cR
 have hll:=mO hv
 refine dH ?_
 refine sP [1,2] [1] ?_
 refine dr ?_
 refine dA 0 ?_ (x:=lF mM)
 refine Lk ?_
 refine dA 7 ?_ (x:=dL)
 refine dA 0 ?_ (x:=lF lI)
 refine dA 16 ?_ (x:=lD [sl .v _] ek)
 refine dA 55 ?_ (x:=cL [(false,[sl _ _])] [(false,[sl .v _])] Of (hs:=by exact (Ou hv ab)))
 exact Jo
end Go.Proofs.YtmekkgdboplbjaaGreatDoor
