/- What functions of the program compute. No condition. -/
import Derived.Test.YtmekkgdboplbjaaGreatDoorRT0
import Derived.Test.YtmekkgdboplbjaaGreatDoorRJ1
set_option linter.all false
namespace Go.Proofs.YtmekkgdboplbjaaGreatDoor
open Go Go.RowKit M PV Tryz
set_option maxRecDepth 10000
attribute [local irreducible] PV.Lcl PV.LclR RV.Lcl
variable{p1 p2 p5 p6 p7 p8 p9 p11 p12 p13 p14 p16 p17 p18:Fl}{e:av}
def aoF{o:List Int}(hb:aZ e≤68719476736)(hob:o.length≤1048576):aE prog 188 [(true,[sl .v (e.Store.aC5.map (aG p1 p2)),val (vI e.Store.Now),val (vI e.aDa),sl .v (e.Order.map ar),sl .v (e.aC6.map (aO p5 p6 p7 p8 p9)),sl .v (e.Done.map (bd p11 p12 p13 p14)),sl .v (e.aDi.map (ba p16 p17 p18)),val (vI e.Steps)]),(false,[sl .v (o.map ar)])] (aA [(true,[sl bH ((fM e o).1.Store.aC5.map (aG bc ai)),val (vI (fM e o).1.Store.Now),val (vI (fM e o).1.aDa),sl ai ((fM e o).1.Order.map ar),sl ct ((fM e o).1.aC6.map (aO aH ai ai aJ ai)),sl ck ((fM e o).1.Done.map (bd aH ai aJ ai)),sl cl ((fM e o).1.aDi.map (ba ai ai ai)),val (vI (fM e o).1.Steps)]),(false,[val (.bool (fM e o).2)])]):=by
 refine sF func188 fun h0 w0 Fz0=>?_
 refine sn 0 0 fun hl0_0=>?_
 refine sn 0 3 fun hl0_3=>?_
 refine sn 0 4 fun hl0_4=>?_
 refine sn 0 5 fun hl0_5=>?_
 refine sn 0 6 fun hl0_6=>?_
 refine sj 1 fun hl1=>?_
 refine np ?_
 refine Jr ?_
 refine CS ?_
 refine kR ?_
 refine xW ?_
 refine HY ?_
 refine dq ?_
 refine cx 12 ?_ ?_<;>intro ga sga
 exact Zh0
 refine zro ?_
 refine kP ?_
 refine sc ?_ ?_<;>intro hba
 exact Pg
 have hr:=Va (e:=e) (o:=o) Mw
 refine aK ?_
 refine Eh ?_
 refine cv ?_
 refine Zh2 ?_
 exact Zh3
def aoG{o:List Int}(hb:aZ e≤68719476736)(hob:o.length≤1048576):aE prog 212 [(true,[sl .v (e.Store.aC5.map (aG p1 p2)),val (vI e.Store.Now),val (vI e.aDa),sl .v (e.Order.map ar),sl .v (e.aC6.map (aO p5 p6 p7 p8 p9)),sl .v (e.Done.map (bd p11 p12 p13 p14)),sl .v (e.aDi.map (ba p16 p17 p18)),val (vI e.Steps)]),(false,[sl .v (o.map ar)])] (aA [(true,[sl bH ((fM e o).1.Store.aC5.map (aG bc ai)),val (vI (fM e o).1.Store.Now),val (vI (fM e o).1.aDa),sl ai ((fM e o).1.Order.map ar),sl ct ((fM e o).1.aC6.map (aO aH ai ai aJ ai)),sl ck ((fM e o).1.Done.map (bd aH ai aJ ai)),sl cl ((fM e o).1.aDi.map (ba ai ai ai)),val (vI (fM e o).1.Steps)]),(false,[val (.bool (fM e o).2)])]):=by
 refine sF func212 fun h0 w0 Fz0=>?_
 refine sn 0 0 fun hl0_0=>?_
 refine sn 0 3 fun hl0_3=>?_
 refine sn 0 4 fun hl0_4=>?_
 refine sn 0 5 fun hl0_5=>?_
 refine sn 0 6 fun hl0_6=>?_
 refine sj 1 fun hl1=>?_
 refine np ?_
 refine Jr ?_
 refine zG ?_
 refine kR ?_
 refine xW ?_
 refine zF ?_
 refine dq ?_
 refine cx 12 ?_ ?_<;>intro ga sga
 exact Zh0
 refine vR ?_
 refine rB ga ?_ (x:=cL cf cC Tc (hs:=by exact TD))
 refine kP ?_
 refine sc ?_ ?_<;>intro hba
 exact Pg
 have hr:=Va (e:=e) (o:=o) Mw
 refine aK ?_
 refine Eh ?_
 refine Qv ?_
 exact Zh3
def aAR(hb:aZ e≤68719476736):aE prog 241 [(true,[sl .v (e.Store.aC5.map (aG p1 p2)),val (vI e.Store.Now),val (vI e.aDa),sl .v (e.Order.map ar),sl .v (e.aC6.map (aO p5 p6 p7 p8 p9)),sl .v (e.Done.map (bd p11 p12 p13 p14)),sl .v (e.aDi.map (ba p16 p17 p18)),val (vI e.Steps)])] (aA [(true,[sl bH ((fC e).Store.aC5.map (aG bc ai)),val (vI (fC e).Store.Now),val (vI (fC e).aDa),sl ai ((fC e).Order.map ar),sl ct ((fC e).aC6.map (aO aH ai ai aJ ai)),sl ck ((fC e).Done.map (bd aH ai aJ ai)),sl cl ((fC e).aDi.map (ba ai ai ai)),val (vI (fC e).Steps)])]):=by
 refine sF func241 fun h0 w0 Fz0=>?_
 refine sn 0 0 fun hl0_0=>?_
 refine sn 0 3 fun hl0_3=>?_
 refine sn 0 4 fun hl0_4=>?_
 refine sn 0 5 fun hl0_5=>?_
 refine sn 0 6 fun hl0_6=>?_
 have hcl:=SU e
 refine np ?_
 refine bg ?_
 refine sQ [1,2] [1,2] ?_
 refine Zh4 ?_
 refine dX 2 ?_ (x:=(ta (qs:=fi) (as_:=fu) ak auw cN Wb (by exact (aAP ab))))
 refine GY (G:=2000) (qs:=Ch) (as_:=Ci) ak alV Mh iY VV (by exact (aoF (e:=e) (o:=oK e) ab ab)) au au fun uss hU0=>?_
 exact Zh5
def aAS(hb:aZ e≤68719476736):aE prog 214 [(true,[sl .v (e.Store.aC5.map (aG p1 p2)),val (vI e.Store.Now),val (vI e.aDa),sl .v (e.Order.map ar),sl .v (e.aC6.map (aO p5 p6 p7 p8 p9)),sl .v (e.Done.map (bd p11 p12 p13 p14)),sl .v (e.aDi.map (ba p16 p17 p18)),val (vI e.Steps)])] (aA [(true,[sl bH ((fC e).Store.aC5.map (aG bc ai)),val (vI (fC e).Store.Now),val (vI (fC e).aDa),sl ai ((fC e).Order.map ar),sl ct ((fC e).aC6.map (aO aH ai ai aJ ai)),sl ck ((fC e).Done.map (bd aH ai aJ ai)),sl cl ((fC e).aDi.map (ba ai ai ai)),val (vI (fC e).Steps)])]):=by
 refine sF func214 fun h0 w0 Fz0=>?_
 refine sn 0 0 fun hl0_0=>?_
 refine sn 0 3 fun hl0_3=>?_
 refine sn 0 4 fun hl0_4=>?_
 refine sn 0 5 fun hl0_5=>?_
 refine sn 0 6 fun hl0_6=>?_
 have hcl:=SU e
 refine np ?_
 refine bg ?_
 refine sQ [1,2] [1,2] ?_
 refine Zh4 ?_
 refine dX 2 ?_ (x:=(ta (qs:=fi) (as_:=fu) ak auq cN Wb (by exact (aAQ ab))))
 refine GY (G:=2000) (qs:=Ch) (as_:=Ci) ak al0 Mh iY VV (by exact (aoG (e:=e) (o:=oK e) ab ab)) au au fun uss hU0=>?_
 exact Zh5
end Go.Proofs.YtmekkgdboplbjaaGreatDoor
