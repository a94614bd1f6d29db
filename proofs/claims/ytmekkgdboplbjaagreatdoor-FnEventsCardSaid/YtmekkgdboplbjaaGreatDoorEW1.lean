/- What functions of the program compute. No condition. -/
import Derived.Test.YtmekkgdboplbjaaGreatDoorEV1
set_option linter.all false
namespace Go.Proofs.YtmekkgdboplbjaaGreatDoor
open Go Go.RowKit M PV Tryz
set_option maxRecDepth 10000
attribute [local irreducible] PV.Lcl PV.LclR RV.Lcl
set_option maxHeartbeats 8000000
def KB:eA prog 31=some [(0,1),(1,4),(5,1),(6,1),(7,5),(12,1)]:=ao
def Uc:prog.underlying 9=some .string:=ao
def awY{s:av}(hl:s.length≤1048576):gu prog gl 10 [(false,[val (.string (B s))])] (aB [(true,[val (vI ((cr s).getD dN).Kind),val (vI ((cr s).getD dN).ax4.Id),val (vI ((cr s).getD dN).ax4.ax8),sl aH (((cr s).getD dN).ax4.ax5.map bF),sl ai (((cr s).getD dN).ax4.Out.map ar),val (vI ((cr s).getD dN).Limit),val (vI ((cr s).getD dN).Id),val (vI ((cr s).getD dN).ax6.Kind),val (vI ((cr s).getD dN).ax6.Row.Id),sl ai (((cr s).getD dN).ax6.Row.Values.map ar),val (vI ((cr s).getD dN).ax6.Field),val (vI ((cr s).getD dN).ax6.Value),val (vI ((cr s).getD dN).Steps)]),(false,[val (.bool (cr s).isSome)])]):=by
 refine lX (rs:=[(true,[val (vI ((cr s).getD dN).Kind),val (vI ((cr s).getD dN).ax4.Id),val (vI ((cr s).getD dN).ax4.ax8),sl aH (((cr s).getD dN).ax4.ax5.map bF),sl ai (((cr s).getD dN).ax4.Out.map ar),val (vI ((cr s).getD dN).Limit),val (vI ((cr s).getD dN).Id),val (vI ((cr s).getD dN).ax6.Kind),val (vI ((cr s).getD dN).ax6.Row.Id),sl ai (((cr s).getD dN).ax6.Row.Values.map ar),val (vI ((cr s).getD dN).ax6.Field),val (vI ((cr s).getD dN).ax6.Value),val (vI ((cr s).getD dN).Steps)]),(false,[val (.bool (cr s).isSome)])]) func10 rfl (nl rfl) (jn (aF.cons (bor_val _) aF.nil) jm) ?_
 intro h0 w0 Fz0
 have hca:=AU s [32]
 have hcz:=AV s [32]
 have hca2:=AU (io s [32]) [32]
 have hcz2:=AV (io s [32]) [32]
 refine HM ?_
 refine Ig ?_
 refine rM ?_
 refine Zdl ?_
 refine zQ ?_
 refine rS ?_
 refine sS [0,2,3,4,5,6,7000] [2] ?_
 refine Zdm ?_
 refine pE ?_
 refine sO [(0,_),(2,_),(3,_),(4,_),(5,_),(6,_),(7,_),(7000,_)] [(2,_),(7,(31,cS))] ?_
 refine nH ?_
 refine iJ ?_
 refine Pj ?_
 refine rS ?_
 refine sc ?_ ?_<;>intro hba
 have hc0:fv s [32]=[97,100,109,105,116]:=gn
 have hr:=av8 hc0
 refine HO ?_
 refine aU ?_
 refine Hf ?_
 refine rM ?_
 refine Zdl ?_
 refine zQ ?_
 refine rS ?_
 refine QI ?_
 refine oJ ?_
 refine rA ?_ (x:=lF oP)
 refine uV ?_
 refine Zdt ?_
 refine nH ?_
 refine rA ?_ (x:=gL [(false,[val _])] [(false,[val _])] aqT (hs:=by exact (awT ab)))
 refine cb ?_
 refine Zdu ?_
 refine rA ?_ (x:=lF Ak)
 refine Dm ?_
 refine dC ?_
 refine Zdt ?_
 refine Zdw ?_
 refine sG [0,2,3,4,5,6,7,8,9,10,18,7000] [2,7] ?_
 refine NI ?_
 refine fp ?_
 refine cx 68 ?_ ?_<;>intro ga sga
 refine mb ?_
 exact Zdy
 refine NH ?_
 refine zw ?_
 refine sc ?_ ?_<;>intro hbb
 exact Zdy
 have hys:=alc (s:=s) dO dO
 refine ba ?_
 refine QI ?_
 exact BM
 have hc0:¬fv s [32]=[97,100,109,105,116]:=gn
 refine Pj ?_
 refine rS ?_
 refine sc ?_ ?_<;>intro hbb
 have hc1:fv s [32]=[99,97,110,99,101,108]:=jA
 have hr:=av9 hc0 hc1
 refine HO ?_
 refine Hf ?_
 refine oJ ?_
 refine rA ?_ (x:=lF pU)
 refine mN ?_
 refine aU ?_
 refine Ze1 ?_
 refine sG [0,2,3,4,5,6,7,18,7000] [2,7] ?_
 refine NI ?_
 refine fp ?_
 refine cx 68 ?_ ?_<;>intro ga sga
 exact Ze2
 refine NH ?_
 refine zw ?_
 refine sc ?_ ?_<;>intro hbc
 exact Nr
 exact Ze4
 have hc1:¬fv s [32]=[99,97,110,99,101,108]:=jA
 refine Pj ?_
 refine rS ?_
 refine sc ?_ ?_<;>intro hbc
 have hc2:fv s [32]=[115,116,101,112]:=sr
 have hr:=awa hc0 hc1 hc2
 refine HO ?_
 refine Hf ?_
 refine oJ ?_
 refine xu ?_
 refine uV ?_
 exact Ze5
 have hc2:¬fv s [32]=[115,116,101,112]:=sr
 have hr:=awb hc0 hc1 hc2
 refine HO ?_
 refine Hf ?_
 refine rM ?_
 refine rA ?_ (x:=gL [(false,[val _])] [(false,[val _])] aqU (hs:=by exact (awW ab)))
 refine cb ?_
 refine BW ?_
 refine rA ?_ (x:=lF Al)
 refine xv ?_
 exact Ze5
def awZ{s:av}(hl:s.length≤1048576):aQ prog 9 [(false,[val (.string (B s))])] (aB [(true,[val (vI ((cr s).getD dN).Kind),val (vI ((cr s).getD dN).ax4.Id),val (vI ((cr s).getD dN).ax4.ax8),sl aH (((cr s).getD dN).ax4.ax5.map bF),sl ai (((cr s).getD dN).ax4.Out.map ar),val (vI ((cr s).getD dN).Limit),val (vI ((cr s).getD dN).Id),val (vI ((cr s).getD dN).ax6.Kind),val (vI ((cr s).getD dN).ax6.Row.Id),sl ai (((cr s).getD dN).ax6.Row.Values.map ar),val (vI ((cr s).getD dN).ax6.Field),val (vI ((cr s).getD dN).ax6.Value),val (vI ((cr s).getD dN).Steps)]),(false,[val (.bool (cr s).isSome)])]):=by
 refine sF func9 fun h0 w0 Fz0=>?_
 have hsl:=sf 32 s
 have hwd0:=jg 32 s 0
 have hwd1:=jg 32 s 1
 refine HM ?_
 refine rK ?_
 refine sT [0,2,3] [2] ?_
 refine OJ ?_
 refine dJ ?_
 refine sS [0,2,3,4] [2] ?_
 refine Zdm ?_
 refine Ny ?_
 refine CY ?_
 refine Ze8 ?_
 refine aY ?_
 refine qW ?_
 refine uC ?_
 refine cx 25 ?_ ?_<;>intro ga sga
 have h0w:0 < (aq 32 s).length:=Lr
 have sga:=ga
 try simp only [qq] at sga
 refine Zcx ?_
 refine rB ga ?_ (x:=lE [val _] ng)
 refine rB ga ?_ (x:=qS)
 refine jq ?_
 refine rS ?_
 refine sc ?_ ?_<;>intro hba
 have hc0:(2 < (aq 32 s).length∧(aq 32 s).getD 0 []=[97,100,109,105,116]):=gD
 have hr:=awc hc0
 have h1w:1 < (aq 32 s).length:=ab
 have hn2:=av1 hc0.1
 refine HX ?_
 refine cC ?_
 refine Zc8 ?_
 refine Dl ?_
 refine dA 7 ?_ (x:=pt Uc)
 refine Zca ?_
 refine dA 48 ?_ (x:=lE [val _] ng)
 refine dA 112 ?_ (x:=pt Uc)
 refine dA 255 ?_ (x:=jF)
 refine dA 511 ?_ (x:=jF)
 refine dA 1023 ?_ (x:=sA)
 refine sS [0,2,3,4,5,6] [2,5] ?_
 refine fB ?_
 refine rA ?_ (x:=DW (((aq 32 s).getD 0 []).length+((aq 32 s).getD 1 []).length+2) Uc (u:=(s.drop (((aq 32 s).getD 0 []).length+((aq 32 s).getD 1 []).length+2))) ab ab uf)
 refine rA ?_ (x:=cL [(false,[val _])] [(false,[val _])] aqR (hs:=by exact (awU vX)))
 refine cb ?_
 refine Zdu ?_
 refine Cf ?_
 refine rS ?_
 refine sO [(0,_),(2,_),(3,_),(4,_),(5,_),(6,_),(7,_),(8,_)] [(2,_),(5,_),(7,(25,bX))] ?_
 refine cC ?_
 refine Ox ?_
 refine Dl ?_
 refine Ze9 ?_
 refine Zea ?_
 refine dA 31 ?_ (x:=cy (qs:=[(false,[val _]),(false,[val _]),(true,bX)]) (cs:=cS) aj qg vu KB ak Vz rfl ak)
 refine dA 63 ?_ (x:=bV (ag:=true) (vs:=cS) iA an ak az)
 refine dC ?_
 refine sO [(0,_),(2,_),(3,_),(4,_),(5,_),(6,_),(7,_),(8,_)] [(2,_),(5,(31,cS)),(7,(25,bX))] ?_
 refine QJ ?_
 refine sG [0,2,3,4,5,6,7,8] [2,5,7] ?_
 refine pC ?_
 refine cx 86 ?_ ?_<;>intro gb sgb
 refine xd ?_
 exact Zec
 refine rB gb ?_ (x:=lD ej iA)
 refine rB gb ?_ (x:=cL [(true,cS)] [(true,ej)] DN (hs:=KR))
 refine CU ?_
 refine sc ?_ ?_<;>intro hbb
 exact Zec
 have hys:=TG (s:=s) gE gE
 refine ba ?_
 refine sS [0,2,3,4,5,6,7,8] [2,5,7] ?_
 exact BM
 have hc0:¬(2 < (aq 32 s).length∧(aq 32 s).getD 0 []=[97,100,109,105,116]):=gD
 refine tc ?_
 refine iw ?_
 refine cx 58 ?_ ?_<;>intro gb sgb
 have h0w:0 < (aq 32 s).length:=Fq
 have sgb:=gb
 try simp only [qq] at sgb
 refine Zed ?_
 refine rB gb ?_ (x:=lE [val _] ng)
 refine rB gb ?_ (x:=qS)
 refine kO ?_
 refine rS ?_
 refine sc ?_ ?_<;>intro hbb
 have hc1:((aq 32 s).length=2∧(aq 32 s).getD 0 []=[99,97,110,99,101,108]):=gD
 have hr:=alm hc0 hc1
 have h1w:1 < (aq 32 s).length:=ab
 refine wJ ?_
 refine BX ?_
 refine pE ?_
 refine BT ?_
 refine zj ?_
 refine cx 86 ?_ ?_<;>intro gc sgc
 exact Zeg
 refine Zeh ?_
 refine nL ?_
 refine Qa ?_
 exact Zei
 have hc1:¬((aq 32 s).length=2∧(aq 32 s).getD 0 []=[99,97,110,99,101,108]):=gD
 refine tc ?_
 refine iw ?_
 refine cx 73 ?_ ?_<;>intro gc sgc
 have h0w:0 < (aq 32 s).length:=Ls
 have sgc:=gc
 try simp only [qq] at sgc
 refine Ov ?_
 refine PH ?_
 refine zA ?_
 refine sc ?_ ?_<;>intro hbc
 have hc2:((aq 32 s).length=2∧(aq 32 s).getD 0 []=[115,116,101,112]):=gD
 have hr:=TL hc0 hc1 hc2
 have h1w:1 < (aq 32 s).length:=ab
 refine wJ ?_
 refine BX ?_
 refine pE ?_
 refine BT ?_
 refine zj ?_
 refine cx 86 ?_ ?_<;>intro gd sgd
 exact Nt
 refine xc ?_
 refine sc ?_ ?_<;>intro hbd
 exact BN
 exact Ns
 have hc2:¬((aq 32 s).length=2∧(aq 32 s).getD 0 []=[115,116,101,112]):=gD
 have hr:=Kt hc0 hc1 hc2
 refine Ia ?_
 refine Hy ?_
 refine BW ?_
 refine yT ?_
 refine rS ?_
 refine Hv ?_
 refine GW ?_
 refine pE ?_
 refine HQ ?_
 refine pC ?_
 refine cx 86 ?_ ?_<;>intro gd sgd
 exact GO
 refine xc ?_
 refine sc ?_ ?_<;>intro hbd
 exact BO
 exact GP
 refine oB ?_
 refine pG ?_
 exact Zex
 refine oE ?_
 refine pG ?_
 exact Zey
 refine mO ?_
 refine pG ?_
 have hc0:¬(2 < (aq 32 s).length∧(aq 32 s).getD 0 []=[97,100,109,105,116]):=gD
 refine tc ?_
 refine iw ?_
 refine cx 58 ?_ ?_<;>intro gb sgb
 have h0w:0 < (aq 32 s).length:=Fq
 have sgb:=gb
 try simp only [qq] at sgb
 refine Zed ?_
 refine rB gb ?_ (x:=lE [val _] ng)
 refine rB gb ?_ (x:=qS)
 refine kO ?_
 refine rS ?_
 refine sc ?_ ?_<;>intro hba
 have hc1:((aq 32 s).length=2∧(aq 32 s).getD 0 []=[99,97,110,99,101,108]):=gD
 have hr:=alm hc0 hc1
 have h1w:1 < (aq 32 s).length:=ab
 refine wJ ?_
 refine BX ?_
 refine pE ?_
 refine BT ?_
 refine zj ?_
 refine cx 86 ?_ ?_<;>intro gc sgc
 exact Zeg
 refine Zeh ?_
 refine nL ?_
 refine Qa ?_
 exact Zez
 exact Zey
 refine oE ?_
 refine pG ?_
 have hc1:¬((aq 32 s).length=2∧(aq 32 s).getD 0 []=[99,97,110,99,101,108]):=gD
 refine tc ?_
 refine iw ?_
 refine cx 73 ?_ ?_<;>intro gc sgc
 have h0w:0 < (aq 32 s).length:=Ls
 have sgc:=gc
 try simp only [qq] at sgc
 refine Ov ?_
 refine PH ?_
 refine zA ?_
 refine sc ?_ ?_<;>intro hba
 have hc2:((aq 32 s).length=2∧(aq 32 s).getD 0 []=[115,116,101,112]):=gD
 have hr:=TL hc0 hc1 hc2
 have h1w:1 < (aq 32 s).length:=ab
 refine wJ ?_
 refine BX ?_
 refine pE ?_
 refine BT ?_
 refine zj ?_
 refine cx 86 ?_ ?_<;>intro gd sgd
 exact Nt
 refine xc ?_
 exact Zez
 exact Zf0
 refine oB ?_
 refine pG ?_
 have hc2:¬((aq 32 s).length=2∧(aq 32 s).getD 0 []=[115,116,101,112]):=gD
 have hr:=Kt hc0 hc1 hc2
 refine Ia ?_
 refine Hy ?_
 refine BW ?_
 refine yT ?_
 refine rS ?_
 refine Hv ?_
 refine GW ?_
 refine pE ?_
 refine HQ ?_
 refine pC ?_
 refine cx 86 ?_ ?_<;>intro gd sgd
 exact GO
 refine xc ?_
 refine sc ?_ ?_<;>intro hba
 exact BO
 exact GP
end Go.Proofs.YtmekkgdboplbjaaGreatDoor
