/- What functions of the program compute. No condition. -/
import Derived.Test.YtmekkgdboplbjaaGreatDoorEI0
set_option linter.all false
namespace Go.Proofs.YtmekkgdboplbjaaGreatDoor
open Go Go.RowKit M PV Tryz
set_option maxRecDepth 10000
attribute [local irreducible] PV.Lcl PV.LclR RV.Lcl
def arB{x:List Int}{y:List Int}:aQ prog 125 [(false,[sl .v (x.map ar)]),(false,[sl .v (y.map ar)])] (aB [(false,[val (.bool (hE x y))])]):=by
 refine sF func125 fun h0 w0 Fz0=>?_
 refine sj 0 fun hl0=>?_
 refine sj 1 fun hl1=>?_
 refine ti ?_
 refine mM ?_
 refine mM ?_
 refine mQ ?_
 refine sc ?_ ?_<;>intro hba
 exact BH
 have hl:x.length=y.length:=ab
 refine CQ ?_
 refine cl ?_
 refine NS ?_
 rintro k ⟨hk,ha⟩
 refine oH ?_
 refine sc ?_ ?_<;>intro hbb
 have hlt:k < x.length:=ab
 have hlt2:k < y.length:=ab
 refine CR ?_
 refine oG ?_
 refine Cg ?_
 refine ij ?_
 refine zjm ?_
 refine dA 255 ?_ (x:=ig)
 refine sc ?_ ?_<;>intro hbc
 exact yM
 refine zo ?_
 refine cB ?_
 exact Yv
 exact MO
def ajh{x:List Int}{y:List Int}:aQ prog 191 [(false,[sl .v (x.map ar)]),(false,[sl .v (y.map ar)])] (aB [(false,[val (.bool (hE x y))])]):=by
 refine sF func191 fun h0 w0 Fz0=>?_
 refine sj 0 fun hl0=>?_
 refine sj 1 fun hl1=>?_
 refine ti ?_
 refine mM ?_
 refine mM ?_
 refine mQ ?_
 refine sc ?_ ?_<;>intro hba
 exact BH
 have hl:x.length=y.length:=ab
 refine CQ ?_
 refine zH ?_
 refine zjq ?_
 rintro k ⟨hk,ha⟩
 refine cY ?_
 refine sc ?_ ?_<;>intro hbb
 have hlt:k < x.length:=ab
 have hlt2:k < y.length:=ab
 refine bv ?_
 refine sS [0,1,12,13] [] ?_
 refine rM ?_
 refine eU ?_
 refine sP [0,1,5,12,13] [] ?_
 refine oG ?_
 refine Cg ?_
 refine ij ?_
 refine zjm ?_
 refine dA 255 ?_ (x:=ig)
 refine sc ?_ ?_<;>intro hbc
 refine sS [0,1,5,12,13] [] ?_
 exact MN
 refine ba ?_
 refine sG [0,1,5,12,13] [] ?_
 refine dI ?_
 exact Yv
 exact Yx
def arC{x:Row}{y:Row}:aQ prog 192 [(true,[val (vI x.Id),sl .v (x.Values.map ar)]),(true,[val (vI y.Id),sl .v (y.Values.map ar)])] (aB [(false,[val (.bool (hE x y))])]):=by
 refine sF func192 fun h0 w0 Fz0=>?_
 refine sn 0 1 fun hl0_1=>?_
 refine sn 1 1 fun hl1_1=>?_
 refine zjt ?_
 refine wM ?_
 refine HN ?_
 refine HN ?_
 refine iw ?_
 refine cx 10 ?_ ?_<;>intro ga sga
 refine Cm ?_
 refine Cm ?_
 refine rB ga ?_ (x:=cL [(false,[sl _ _]),(false,[sl _ _])] [(false,[sl .v _]),(false,[sl .v _])] ahu (hs:=by exact ajh))
 refine jq ?_
 exact Gv
 refine mO ?_
 exact Gv
def arD{x:Row}{y:Row}:aQ prog 208 [(true,[val (vI x.Id),sl .v (x.Values.map ar)]),(true,[val (vI y.Id),sl .v (y.Values.map ar)])] (aB [(false,[val (.bool (hE x y))])]):=by
 refine sF func208 fun h0 w0 Fz0=>?_
 refine sn 0 1 fun hl0_1=>?_
 refine sn 1 1 fun hl1_1=>?_
 refine zjt ?_
 refine wM ?_
 refine HN ?_
 refine HN ?_
 refine iw ?_
 refine cx 10 ?_ ?_<;>intro ga sga
 refine Cm ?_
 refine Cm ?_
 refine rB ga ?_ (x:=cL [(false,[sl _ _]),(false,[sl _ _])] [(false,[sl .v _]),(false,[sl .v _])] DA (hs:=Bb))
 refine jq ?_
 exact Gv
 refine mO ?_
 exact Gv
def aji{p1 p3:Fl}{x:List Row}{y:List Row}:aQ prog 128 [(false,[sl .v (x.map (cD p1))]),(false,[sl .v (y.map (cD p3))])] (aB [(false,[val (.bool (hE x y))])]):=by
 refine sF func128 fun h0 w0 Fz0=>?_
 refine sj 0 fun hl0=>?_
 refine sj 1 fun hl1=>?_
 refine ti ?_
 refine uy ?_
 refine uy ?_
 refine mQ ?_
 refine sc ?_ ?_<;>intro hba
 exact BH
 have hl:x.length=y.length:=ab
 refine CQ ?_
 refine cl ?_
 refine NS ?_
 rintro k ⟨hk,ha⟩
 refine cP ?_
 refine CP ?_
 refine sc ?_ ?_<;>intro hbb
 have hlt:k < x.length:=ab
 have hlt2:k < y.length:=ab
 refine CR ?_
 refine oG ?_
 refine zjx ?_
 refine ij ?_
 refine dA 48 ?_ (x:=aZ aj mi an ak bE ak)
 refine dA 112 ?_ (x:=lE fJ ju)
 refine dA 255 ?_ (x:=cL [(true,ct),(true,ct)] [(true,fJ),(true,fJ)] an8 (hs:=by exact arD))
 refine dA 511 ?_ (x:=nT)
 refine sc ?_ ?_<;>intro hbc
 exact yM
 refine zo ?_
 refine cB ?_
 refine nx (k+1) (by exact ⟨ab,xx ha hlt hlt2 (by first|(simp_all [fZ];done)|(apply fZ.1;simp_all))⟩)
 exact MO
end Go.Proofs.YtmekkgdboplbjaaGreatDoor
