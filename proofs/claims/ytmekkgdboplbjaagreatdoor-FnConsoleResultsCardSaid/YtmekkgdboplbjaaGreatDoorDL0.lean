/- What functions of the program compute. No condition. -/
import Derived.Test.YtmekkgdboplbjaaGreatDoorDG0
set_option linter.all false
namespace Go.Proofs.YtmekkgdboplbjaaGreatDoor
open Go Go.RowKit M PV
set_option maxRecDepth 10000
attribute [local irreducible] PV.Lcl PV.LclR RV.Lcl
def Oq{x:List Int}{y:List Int}:aS Tryz.prog 191 [(false,[sl .v (x.map ax)]),(false,[sl .v (y.map ax)])] (aJ [(false,[val (.bool (kI x y))])]):=by
 refine sF Tryz.func191 fun h0 w0 Fz0=>?_
 refine sj 0 fun hl0=>?_
 refine sj 1 fun hl1=>?_
 refine uQ ?_
 refine mu ?_
 refine mu ?_
 refine rA ?_ (x:=lm)
 refine sc ?_ ?_<;>intro hba
 exact Iz
 have hl:x.length=y.length:=ab
 refine dH ?_
 refine sS [0,1,4] [] ?_
 refine sB ?_
 refine Kw ?_
 rintro k ⟨hk,ha⟩
 refine bO ?_
 refine sc ?_ ?_<;>intro hbb
 have hlt:k < x.length:=ab
 have hlt2:k < y.length:=ab
 refine bA ?_
 refine sS [0,1,12,13] [] ?_
 refine rM ?_
 refine gu ?_
 refine sP [0,1,5,12,13] [] ?_
 refine dr ?_
 refine nE ?_
 refine BI ?_
 refine nE ?_
 refine BG ?_
 refine dA 255 ?_ (x:=lm)
 refine sc ?_ ?_<;>intro hbc
 exact IA
 refine bd ?_
 refine sG [0,1,5,12,13] [] ?_
 refine cf ?_
 refine nx (k+1) (by exact ⟨ab,ME ha hlt hlt2 eX⟩)
 exact IB
def Xm{x:Row}{y:Row}:aS Tryz.prog 192 [(true,[val (vI x.Id),sl .v (x.Values.map ax)]),(true,[val (vI y.Id),sl .v (y.Values.map ax)])] (aJ [(false,[val (.bool (kI x y))])]):=by
 refine sF Tryz.func192 fun h0 w0 Fz0=>?_
 refine sn 0 1 fun hl0_1=>?_
 refine sn 1 1 fun hl1_1=>?_
 refine LK ?_
 refine ya ?_
 refine nD ?_
 refine nD ?_
 refine oH ?_
 refine cx 10 (fun ga sga=>?_) (fun ga sga=>?_)
 refine xL ?_
 refine xL ?_
 refine rB ga ?_ (x:=cL [(false,[sl _ _]),(false,[sl _ _])] [(false,[sl .v _]),(false,[sl .v _])] ML (hs:=by exact Oq))
 refine jx ?_
 exact IC
 refine iA ?_
 exact IC
end Go.Proofs.YtmekkgdboplbjaaGreatDoor
