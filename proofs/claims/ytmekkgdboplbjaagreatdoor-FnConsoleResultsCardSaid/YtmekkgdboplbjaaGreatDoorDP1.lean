/- What functions of the program compute. No condition. -/
import Derived.Test.YtmekkgdboplbjaaGreatDoorDO1
set_option linter.all false
namespace Go.Proofs.YtmekkgdboplbjaaGreatDoor
open Go Go.RowKit M PV
set_option maxRecDepth 10000
attribute [local irreducible] PV.Lcl PV.LclR RV.Lcl
set_option maxHeartbeats 8000000
def ZW:eL Tryz.prog 31=some [(0,1),(1,4),(5,1),(6,1),(7,5),(12,1)]:=aq
def ZX{s:am}(hl:s.length≤1048576):db Tryz.prog gl 10 [(false,[val (.string (B s))])] (aJ [(true,[val (vI ((bq s).getD cY).Kind),val (vI ((bq s).getD cY).ac9.Id),val (vI ((bq s).getD cY).ac9.ade),sl bb (((bq s).getD cY).ac9.ada.map bU),sl ak (((bq s).getD cY).ac9.Out.map ax),val (vI ((bq s).getD cY).Limit),val (vI ((bq s).getD cY).Id),val (vI ((bq s).getD cY).adb.Kind),val (vI ((bq s).getD cY).adb.Row.Id),sl ak (((bq s).getD cY).adb.Row.Values.map ax),val (vI ((bq s).getD cY).adb.Field),val (vI ((bq s).getD cY).adb.Value),val (vI ((bq s).getD cY).Steps)]),(false,[val (.bool (bq s).isSome)])]):=by
 refine gq (rs:=[(true,[val (vI ((bq s).getD cY).Kind),val (vI ((bq s).getD cY).ac9.Id),val (vI ((bq s).getD cY).ac9.ade),sl bb (((bq s).getD cY).ac9.ada.map bU),sl ak (((bq s).getD cY).ac9.Out.map ax),val (vI ((bq s).getD cY).Limit),val (vI ((bq s).getD cY).Id),val (vI ((bq s).getD cY).adb.Kind),val (vI ((bq s).getD cY).adb.Row.Id),sl ak (((bq s).getD cY).adb.Row.Values.map ax),val (vI ((bq s).getD cY).adb.Field),val (vI ((bq s).getD cY).adb.Value),val (vI ((bq s).getD cY).Steps)]),(false,[val (.bool (bq s).isSome)])]) Tryz.func10 rfl (nl rfl) (gV (aB.cons (bor_val _) aB.nil) iv) ?_
 intro h0 w0 Fz0
 have hca:=tN s [32]
 have hcz:=tO s [32]
 have hca2:=tN (fg s [32]) [32]
 have hcz2:=tO (fg s [32]) [32]
 refine sR ?_
 refine rX ?_ (x:=(ew ae DY Eb))
 refine xX ?_
 refine rM ?_
 refine Lf ?_
 refine sE ?_
 refine rS ?_
 refine sS [0,2,3,4,5,6,7000] [2] ?_
 refine Mt ?_
 refine Bp ?_
 refine eO ?_
 refine sO [(0,_),(2,_),(3,_),(4,_),(5,_),(6,_),(7,_),(7000,_)] [(2,_),(7,(31,ju))] ?_
 refine oK ?_
 refine fG ?_
 refine Cc ?_
 refine rS ?_
 refine sc ?_ ?_<;>intro hba
 have hc0:dm s [32]=[97,100,109,105,116]:=gp
 have hr:=Zc hc0
 refine xS ?_
 refine aU ?_
 refine xC ?_
 refine rM ?_
 refine Lf ?_
 refine sE ?_
 refine rS ?_
 refine CN ?_
 refine jW ?_
 refine rA ?_ (x:=lF tg)
 refine uZ ?_
 refine Mu ?_
 refine oK ?_
 refine rA ?_ (x:=gL [(false,[val _])] [(false,[val _])] WK (hs:=by exact (ZS ab)))
 refine bW ?_
 refine rA ?_ (x:=np (cs:=cD) (qs:=cI) ae aj FV bn)
 refine kG ?_
 refine rA ?_ (x:=lF vh)
 refine yi ?_
 refine eO ?_
 refine Mu ?_
 refine Mv ?_
 refine sG [0,2,3,4,5,6,7,8,9,10,18,7000] [2,7] ?_
 refine Bg ?_
 refine fj ?_
 refine cx 68 (fun ga sga=>?_) (fun ga sga=>?_)
 refine jT ?_
 exact JD
 refine Bf ?_
 refine sq ?_
 refine sc ?_ ?_<;>intro hbb
 exact JD
 have hys:=Ph (s:=s) eX eX
 refine bd ?_
 refine CN ?_
 exact JE
 have hc0:¬dm s [32]=[97,100,109,105,116]:=gp
 refine Cc ?_
 refine rS ?_
 refine sc ?_ ?_<;>intro hbb
 have hc1:dm s [32]=[99,97,110,99,101,108]:=gU
 have hr:=Zd hc0 hc1
 refine xS ?_
 refine xC ?_
 refine jW ?_
 refine rA ?_ (x:=lF th)
 refine qf ?_
 refine aU ?_
 refine Ke ?_
 refine sG [0,2,3,4,5,6,7,18,7000] [2,7] ?_
 refine Bg ?_
 refine fj ?_
 refine cx 68 (fun ga sga=>?_) (fun ga sga=>?_)
 exact JF
 refine Bf ?_
 refine sq ?_
 refine sc ?_ ?_<;>intro hbc
 exact AZ
 exact JG
 have hc1:¬dm s [32]=[99,97,110,99,101,108]:=gU
 refine Cc ?_
 refine rS ?_
 refine sc ?_ ?_<;>intro hbc
 have hc2:dm s [32]=[115,116,101,112]:=md
 have hr:=Ze hc0 hc1 hc2
 refine xS ?_
 refine xC ?_
 refine jW ?_
 refine rA ?_ (x:=lF qC)
 refine uZ ?_
 exact JH
 have hc2:¬dm s [32]=[115,116,101,112]:=md
 have hr:=Zf hc0 hc1 hc2
 refine xS ?_
 refine xC ?_
 refine rM ?_
 refine rA ?_ (x:=gL [(false,[val _])] [(false,[val _])] WL (hs:=by exact (ZV ab)))
 refine bW ?_
 refine rA ?_ (x:=np (cs:=iX) (qs:=jQ) ae aj FN bn)
 refine kG ?_
 refine rA ?_ (x:=lF MQ)
 refine yj ?_
 exact JH
end Go.Proofs.YtmekkgdboplbjaaGreatDoor
