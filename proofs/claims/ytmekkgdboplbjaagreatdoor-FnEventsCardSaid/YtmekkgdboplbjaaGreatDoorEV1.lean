/- What functions of the program compute. No condition. -/
import Derived.Test.YtmekkgdboplbjaaGreatDoorEU1
set_option linter.all false
namespace Go.Proofs.YtmekkgdboplbjaaGreatDoor
open Go Go.RowKit M PV Tryz
set_option maxRecDepth 10000
attribute [local irreducible] PV.Lcl PV.LclR RV.Lcl
set_option maxHeartbeats 8000000
def alC:eA prog 27=some [(0,1),(1,1)]:=ao
def Ub:eA prog 29=some [(0,1),(1,2),(3,1),(4,1)]:=ao
def awV{ws:List av}(h0w:0 < ws.length)(hw:∀j,(ws.getD j []).length≤1048576):gu prog gl 141 [(false,[sl .v (ws.map mS)])] (aB [(true,[val (vI (jh ws).Kind),val (vI (jh ws).Row.Id),sl ai ((jh ws).Row.Values.map ar),val (vI (jh ws).Field),val (vI (jh ws).Value)])]):=by
 refine lX (rs:=[(true,[val (vI (jh ws).Kind),val (vI (jh ws).Row.Id),sl ai ((jh ws).Row.Values.map ar),val (vI (jh ws).Field),val (vI (jh ws).Value)])]) func141 rfl (nl rfl) (jn (aF.cons (bor_sl _) aF.nil) jm) ?_
 intro h0 w0 Fz0
 refine sj 0 fun hl0=>?_
 refine PQ ?_
 refine sT [0,2,7000] [2] ?_
 refine Zcd ?_
 refine aU ?_
 refine CY ?_
 refine wC ?_
 refine OV ?_
 refine wD ?_
 refine cx 10 ?_ ?_<;>intro ga sga
 refine zR ?_
 refine rB ga ?_ (x:=lN eR)
 refine wB ?_
 refine rS ?_
 refine sc ?_ ?_<;>intro hba
 have hc0:(ws.getD 0 []=[105,110,115,101,114,116]∧ws.length=2):=gD
 have hr:=av3 hc0
 have h1w:1 < ws.length:=ab
 refine sS [0,2,3,7000] [2,3] ?_
 refine OP ?_
 refine wC ?_
 refine Cn ?_
 refine rA ?_ (x:=gL [(false,[val _])] [(false,[val _])] aqf (hs:=by exact (awO (hw 1))))
 refine cb ?_
 refine Zch ?_
 refine uP ?_
 refine IR ?_
 exact Zcj
 have hc0:¬(ws.getD 0 []=[105,110,115,101,114,116]∧ws.length=2):=gD
 refine Cx ?_
 refine wD ?_
 refine cx 29 ?_ ?_<;>intro gb sgb
 refine xm ?_
 refine rB gb ?_ (x:=lN eR)
 refine rB gb ?_ (x:=iZ)
 refine kO ?_
 refine rS ?_
 refine sc ?_ ?_<;>intro hbb
 exact Zcl
 have hc1:¬(ws.getD 0 []=[100,101,108,101,116,101]∧ws.length=2):=gD
 refine Cx ?_
 refine wD ?_
 refine cx 49 ?_ ?_<;>intro gc sgc
 refine Py ?_
 refine rB gc ?_ (x:=iZ)
 refine zA ?_
 refine sc ?_ ?_<;>intro hbc
 exact Nk
 exact GM
 exact Nl
 refine oE ?_
 refine pG ?_
 exact Zcs
 refine mO ?_
 refine pG ?_
 have hc0:¬(ws.getD 0 []=[105,110,115,101,114,116]∧ws.length=2):=gD
 refine Cx ?_
 refine wD ?_
 refine cx 29 ?_ ?_<;>intro gb sgb
 refine xm ?_
 refine rB gb ?_ (x:=lN eR)
 refine rB gb ?_ (x:=iZ)
 refine kO ?_
 refine rS ?_
 refine sc ?_ ?_<;>intro hba
 exact Zcl
 exact Zcs
 refine oE ?_
 refine pG ?_
 have hc1:¬(ws.getD 0 []=[100,101,108,101,116,101]∧ws.length=2):=gD
 refine Cx ?_
 refine wD ?_
 refine cx 49 ?_ ?_<;>intro gc sgc
 refine Py ?_
 refine rB gc ?_ (x:=iZ)
 refine zA ?_
 refine sc ?_ ?_<;>intro hba
 exact Nk
 exact GM
 exact Nl
def awW{s:av}(hl:s.length≤1048576):gu prog gl 57 [(false,[val (.string (B s))])] (aB [(true,[val (vI ((fS s).getD dH).Kind),val (vI ((fS s).getD dH).Row.Id),sl ai (((fS s).getD dH).Row.Values.map ar),val (vI ((fS s).getD dH).Field),val (vI ((fS s).getD dH).Value)]),(false,[val (.bool (fS s).isSome)])]):=by
 refine lX (rs:=[(true,[val (vI ((fS s).getD dH).Kind),val (vI ((fS s).getD dH).Row.Id),sl ai (((fS s).getD dH).Row.Values.map ar),val (vI ((fS s).getD dH).Field),val (vI ((fS s).getD dH).Value)]),(false,[val (.bool (fS s).isSome)])]) func57 rfl (nl rfl) (jn (aF.cons (bor_val _) aF.nil) jm) ?_
 intro h0 w0 Fz0
 have hsl:=sf 32 s
 have hfl:=akF (jh (aq 32 s))
 refine PQ ?_
 refine Ig ?_
 refine Zbg ?_
 refine rA ?_ (x:=gL [(false,[sl _ _])] [(false,[sl .v _])] apP (hs:=by exact (awV (ws:=(aq 32 s)) ab (fun j=>Nat.le_trans (jg 32 s j) ab))))
 refine yT ?_
 refine dC ?_
 refine sO [(0,_),(2,_),(3,_),(4,_),(7000,_)] [(2,_),(4,(29,eP))] ?_
 refine aY ?_
 refine IQ ?_
 refine rA ?_ (x:=cL [(true,eP)] [(true,gK)] QY (hs:=by exact (RY (x:=jh (aq 32 s)))))
 refine fp ?_
 refine cx 11 ?_ ?_<;>intro ga sga
 refine mb ?_
 exact Zcu
 refine rB ga ?_ (x:=lD gK kq)
 refine rB ga ?_ (x:=gL [(true,eP)] [(true,gK)] ain (hs:=by exact (alx (u:=jh (aq 32 s)))))
 refine zw ?_
 refine sc ?_ ?_<;>intro hba
 exact Zcu
 have hys:=avk (s:=s) KX KX
 rw [alh] at hys
 refine ba ?_
 refine sS [0,2,3,4,7000] [2,4] ?_
 exact No
def awX{s:av}(hl:s.length≤1048576):aQ prog 53 [(false,[val (.string (B s))])] (aB [(true,[val (vI ((fS s).getD dH).Kind),val (vI ((fS s).getD dH).Row.Id),sl ai (((fS s).getD dH).Row.Values.map ar),val (vI ((fS s).getD dH).Field),val (vI ((fS s).getD dH).Value)]),(false,[val (.bool (fS s).isSome)])]):=by
 refine sF func53 fun h0 w0 Fz0=>?_
 have hsl:=sf 32 s
 have hfl:=akF (iB s)
 have hwd0:=jg 32 s 0
 have hwd1:=jg 32 s 1
 have hwd2:=jg 32 s 2
 have hwd3:=jg 32 s 3
 refine PQ ?_
 refine rK ?_
 refine sT [0,2,3] [2] ?_
 refine OJ ?_
 refine dJ ?_
 refine sS [0,2,3,4] [2] ?_
 refine Zcd ?_
 refine aU ?_
 refine CY ?_
 refine Zcw ?_
 refine aY ?_
 refine qW ?_
 refine iw ?_
 refine cx 15 ?_ ?_<;>intro ga sga
 have h0w:0 < (aq 32 s).length:=Lr
 have sga:=ga
 try simp only [qq] at sga
 refine Zcx ?_
 refine rB ga ?_ (x:=lE [val _] ng)
 refine rB ga ?_ (x:=qS)
 refine jq ?_
 refine rS ?_
 refine sc ?_ ?_<;>intro hba
 have hc0:((aq 32 s).length=2∧(aq 32 s).getD 0 []=[105,110,115,101,114,116]):=gD
 have hr:=av7 hc0
 have h1w:1 < (aq 32 s).length:=ab
 refine uU ?_
 refine Cn ?_
 refine rA ?_ (x:=cL [(false,[val _])] [(false,[val _])] apL (hs:=by exact (awP ab)))
 refine cb ?_
 refine Zch ?_
 refine yX ?_
 refine rS ?_
 refine sO [(0,_),(2,_),(3,_),(4,_),(5,_),(6,_),(7,_)] [(2,_),(5,_),(6,(27,ct))] ?_
 refine aY ?_
 refine QE ?_
 refine NJ ?_
 refine dC ?_
 refine sO [(0,_),(2,_),(3,_),(4,_),(5,_),(6,_),(7,_)] [(2,_),(5,(29,eP)),(6,(27,ct))] ?_
 refine Zcz ?_
 refine sG [0,2,3,4,5,6,7] [2,5,6] ?_
 refine pC ?_
 refine cx 60 ?_ ?_<;>intro gb sgb
 refine xd ?_
 exact Zd0
 refine Hc ?_
 refine CU ?_
 refine sc ?_ ?_<;>intro hbb
 exact Zd0
 have hys:=ak0 (s:=s) gE gE
 refine ba ?_
 refine sS [0,2,3,4,5,6,7] [2,5,6] ?_
 exact No
 have hc0:¬((aq 32 s).length=2∧(aq 32 s).getD 0 []=[105,110,115,101,114,116]):=gD
 refine tc ?_
 refine iu ?_
 refine sc ?_ ?_<;>intro hbb
 have hc1:(aq 32 s).length=2:=Fw
 have hr:=ali hc0 hc1
 have h1w:1 < (aq 32 s).length:=ab
 refine wJ ?_
 refine Zd5 ?_
 refine NJ ?_
 exact Zd6
 have hc1:¬(aq 32 s).length=2:=Fw
 refine tc ?_
 refine iu ?_
 refine sc ?_ ?_<;>intro hbc
 have hc2:(aq 32 s).length=4:=ab
 have hr:=alj hc0 hc1 hc2
 have h1w:1 < (aq 32 s).length:=ab
 have h2w:2 < (aq 32 s).length:=ab
 have h3w:3 < (aq 32 s).length:=ab
 refine sP [0,2,3,4,5] [2,5] ?_
 refine cC ?_
 refine Ox ?_
 refine Dl ?_
 refine Zd8 ?_
 refine Zd9 ?_
 refine dA 96 ?_ (x:=lE [val _] ng)
 refine Zda ?_
 refine Zdb ?_
 refine Zdc ?_
 refine OT ?_
 exact Zde
 have hc2:¬(aq 32 s).length=4:=ab
 have hr:=alk hc0 hc1 hc2
 refine dp ?_
 refine HX ?_
 exact Zde
 refine mO ?_
 refine pG ?_
 have hc0:¬((aq 32 s).length=2∧(aq 32 s).getD 0 []=[105,110,115,101,114,116]):=gD
 refine tc ?_
 refine iu ?_
 refine sc ?_ ?_<;>intro hba
 have hc1:(aq 32 s).length=2:=Fw
 have hr:=ali hc0 hc1
 have h1w:1 < (aq 32 s).length:=ab
 refine wJ ?_
 refine Zd5 ?_
 refine NJ ?_
 refine OT ?_
 refine NZ ?_
 refine pC ?_
 refine cx 60 ?_ ?_<;>intro gb sgb
 exact Np
 refine Hc ?_
 refine CU ?_
 refine sc ?_ ?_<;>intro hbb
 exact GN
 exact Nq
 have hc1:¬(aq 32 s).length=2:=Fw
 refine tc ?_
 refine iu ?_
 refine sc ?_ ?_<;>intro hbb
 have hc2:(aq 32 s).length=4:=ab
 have hr:=alj hc0 hc1 hc2
 have h1w:1 < (aq 32 s).length:=ab
 have h2w:2 < (aq 32 s).length:=ab
 have h3w:3 < (aq 32 s).length:=ab
 refine sP [0,2,3,4,5] [2,5] ?_
 refine cC ?_
 refine Ox ?_
 refine Dl ?_
 refine Zd8 ?_
 refine Zd9 ?_
 refine dA 96 ?_ (x:=lE [val _] ng)
 refine Zda ?_
 refine Zdb ?_
 refine Zdc ?_
 exact Zd6
 have hc2:¬(aq 32 s).length=4:=ab
 have hr:=alk hc0 hc1 hc2
 refine dp ?_
 refine HX ?_
 exact Zdj
end Go.Proofs.YtmekkgdboplbjaaGreatDoor
