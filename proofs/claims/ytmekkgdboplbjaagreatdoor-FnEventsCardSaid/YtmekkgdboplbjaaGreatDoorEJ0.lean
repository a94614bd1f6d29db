/- What functions of the program compute. No condition. -/
import Derived.Test.YtmekkgdboplbjaaGreatDoorEI0
set_option linter.all false
namespace Go.Proofs.YtmekkgdboplbjaaGreatDoor
open Go Go.RowKit M PV Tryz
set_option maxRecDepth 10000
attribute [local irreducible] PV.Lcl PV.LclR RV.Lcl
def arn{x:fC}:aQ prog 175 [(true,[val (vI x.Field),val (vI x.Low),val (vI x.High)])] (aB [(false,[val (.bool (nN x))])]):=by
 refine sF func175 fun h0 w0 Fz0=>?_
 refine sR ?_
 refine ze6 ?_
 refine rA ?_ (x:=lF rt)
 refine ff ?_
 refine rA ?_ (x:=cL [(false,[val _])] [(false,[val _])] Ra (hs:=by exact RS))
 refine rM ?_
 refine cx 6 ?_ ?_<;>intro ga sga
 refine Pz ?_
 refine rB ga ?_ (x:=kJ)
 refine qZ ?_
 refine cx 11 ?_ ?_<;>intro gb sgb
 refine rB gb ?_ (x:=lF DC)
 refine nK ?_
 refine rB gb ?_ (x:=lF vc)
 refine PL ?_
 refine iM ?_
 refine cx 18 ?_ ?_<;>intro gc sgc
 refine rB gc ?_ (x:=lF vc)
 refine oL ?_
 refine rB gc ?_ (x:=kf)
 refine rh ?_
 exact wq
 refine oB ?_
 exact wq
 refine ix ?_
 refine au.cases (s:=18) rfl (fun g4=>nomatch g4) (fun g4=>?_)
 refine zq ?_
 exact wq
 refine jb ?_
 refine au.cases (s:=11) rfl (fun g5=>nomatch g5) (fun g5=>?_)
 refine wL ?_
 refine rM ?_
 refine au.cases (s:=18) rfl (fun g6=>nomatch g6) (fun g6=>?_)
 refine uF ?_
 exact wq
def aro{x:fC}:aQ prog 178 [(true,[val (vI x.Field),val (vI x.Low),val (vI x.High)])] (aB [(false,[val (.bool (nN x))])]):=by
 refine sF func178 fun h0 w0 Fz0=>?_
 refine sR ?_
 refine ze6 ?_
 refine rA ?_ (x:=lF rt)
 refine Cc ?_
 refine rM ?_
 refine cx 6 ?_ ?_<;>intro ga sga
 refine Pz ?_
 refine rB ga ?_ (x:=lF vc)
 refine Ca ?_
 refine qZ ?_
 refine cx 13 ?_ ?_<;>intro gb sgb
 refine rB gb ?_ (x:=lF vc)
 refine PL ?_
 refine kO ?_
 exact wq
 refine oE ?_
 exact wq
 refine jb ?_
 refine au.cases (s:=13) rfl (fun g3=>nomatch g3) (fun g3=>?_)
 refine zf g3 ?_
 refine rA ?_ (x:=aR g3)
 exact wq
def arp{x:List Int}:aQ prog 179 [(false,[sl .v (x.map ar)])] (aB [(false,[val (.bool (nP x))])]):=by
 refine sF func179 fun h0 w0 Fz0=>?_
 refine sj 0 fun hl0=>?_
 refine zI ?_
 refine sL [0] [] (fun k:Nat=>k≤x.length∧(x.take k).all lA=true) (fun k:Nat=>[(3,RV.int (k:Int))]) (fun k:Nat=>[]) (fun k:Nat=>x.length - k) 0 iG bp an ?_
 rintro k ⟨hk,ha⟩
 refine oH ?_
 refine sc ?_ ?_<;>intro hba
 have hlt:k < x.length:=ab
 refine bv ?_
 refine sS [0,3] [] ?_
 refine xb ?_
 refine zdc ?_
 refine sc ?_ ?_<;>intro hbb
 have hno:lA x[k]=false:=by simpa [lA] using hbb
 refine zC ?_
 exact rb (by simp [nP,oM (P:=lA) hlt hno])
 have hyes:lA x[k]=true:=by simpa [lA] using hbb
 refine wR ?_
 exact wo
 have hall:x.all lA=true:=mc Fo
 refine wS ?_
 refine mM ?_
 refine IF ?_
 refine db ?_
 exact rb (by simp [nP,hall, *])
def RW{x:ax4}:aQ prog 90 [(true,[val (vI x.Id),val (vI x.ax8),sl .v (x.ax5.map bF),sl .v (x.Out.map ar)])] (aB [(false,[val (.bool (bN x))])]):=by
 refine sF func90 fun h0 w0 Fz0=>?_
 refine sn 0 2 fun hl0_2=>?_
 refine sn 0 3 fun hl0_3=>?_
 refine py ?_
 refine ma ?_
 refine CM ?_
 refine sL [1] [1] (fun k:Nat=>k≤x.ax5.length∧mT ⟨0,0,0⟩ nN rp x.ax5 k=true) (fun k:Nat=>[(3,RV.int (k:Int))]) (fun k:Nat=>[]) (fun k:Nat=>x.ax5.length - k) 0 gF bp an ?_
 rintro k ⟨hk,ha⟩
 refine cP ?_
 refine IB ?_
 refine sc ?_ ?_<;>intro hba
 have hlt:k < x.ax5.length:=ab
 have hgk:x.ax5.getD k ⟨0,0,0⟩=x.ax5[k]:=fP hlt
 have hgp:0 < k→x.ax5.getD (k - 1) ⟨0,0,0⟩=x.ax5[k - 1]:=fun h=>fP ab
 refine eB ?_
 refine sQ [1,3] [1] ?_
 refine Qg ?_
 refine OI ?_
 refine dA 15 ?_ (x:=lE iY vd)
 refine dA 31 ?_ (x:=cL [(true,iY)] [(true,iY)] an4 (hs:=by exact aro))
 refine dA 63 ?_ (x:=nT)
 refine dA 127 ?_ (x:=sM)
 refine dx 18 ?_ ?_<;>intro ga sga
 refine dT 255 ga ?_
 refine dT 511 ga ?_
 refine dT 1023 ga ?_
 refine dU 2047 ?_
 refine dU 4095 ?_
 refine dU 2047 ?_
 refine dU 16383 ?_
 refine dU 32767 ?_
 refine dU 65535 ?_
 refine dU 2047 ?_
 refine dU 133119 ?_
 refine dU 2047 ?_
 refine dU 526335 ?_
 refine dU 1968127 ?_
 refine dU 4065279 ?_
 refine dU 8259583 ?_
 refine dU 16777215 ?_
 refine dT 33554431 ga ?_
 refine dA 67108863 ?_ (x:=bj ga)
 refine cH ?_
 exact XX
 refine dB 255 ga ?_ (x:=sM)
 refine dB 511 ga ?_ (x:=jE)
 refine dB 1023 ga ?_ (x:=sM)
 refine dx 21 ?_ ?_<;>intro gb sgb
 refine dB 2047 gb ?_ (x:=lF tB)
 refine dB 4095 gb ?_ (x:=lD [sl .v _] kp)
 refine dB 2047 gb ?_ (x:=sM)
 refine dB 16383 gb ?_ (x:=aZ aj il an ak bE ak)
 refine dB 32767 gb ?_ (x:=cR aj rt az)
 refine dB 65535 gb ?_ (x:=lE [val _] bb)
 refine dB 2047 gb ?_ (x:=lF tB)
 refine dB 133119 gb ?_ (x:=lD [sl .v _] kp)
 refine dB 2047 gb ?_ (x:=sM)
 refine dB 526335 gb ?_ (x:=jo)
 refine dB 1968127 gb ?_ (x:=aZ (k:=k - 1) aj il an ab bE ak)
 refine dB 4065279 gb ?_ (x:=cR aj rt az)
 refine dB 8259583 gb ?_ (x:=lE [val _] bb)
 refine dB 16777215 gb ?_ (x:=kf)
 refine dB 33554431 ga ?_ (x:=bj gb)
 refine dA 67108863 ?_ (x:=aR ga)
 refine sc ?_ ?_<;>intro hbb
 exact XX
 exact XZ
 refine dF 2047 gb ?_
 refine dF 4095 gb ?_
 refine dF 2047 gb ?_
 refine dF 16383 gb ?_
 refine dF 32767 gb ?_
 refine dF 65535 gb ?_
 refine dF 2047 gb ?_
 refine dF 133119 gb ?_
 refine dF 2047 gb ?_
 refine dF 526335 gb ?_
 refine dF 1968127 gb ?_
 refine dF 4065279 gb ?_
 refine dF 8259583 gb ?_
 refine dF 16777215 gb ?_
 refine dB 33554431 ga ?_ (x:=aR gb)
 refine dA 67108863 ?_ (x:=aR ga)
 refine gv ?_
 exact XZ
 have hend:k=x.ax5.length:=ab
 have hall:fh ⟨0,0,0⟩ nN rp x.ax5=true:=uY ha hend
 refine Iv ?_
 refine rA ?_ (x:=lF kQ)
 refine Cc ?_
 refine rM ?_
 refine cx 41 ?_ ?_<;>intro ga sga
 refine rB ga ?_ (x:=lF tz)
 refine Ca ?_
 refine qZ ?_
 refine cx 46 ?_ ?_<;>intro gb sgb
 refine Cz ?_
 refine rB gb ?_ (x:=kf)
 refine iM ?_
 refine cx 52 ?_ ?_<;>intro gc sgc
 refine ze ?_
 refine rB gc ?_ (x:=cL [(false,[sl _ _])] [(false,[sl .v _])] an5 (hs:=by exact arp))
 refine rh ?_
 exact Gr
 refine oB ?_
 exact Gr
 refine ix ?_
 refine au.cases (s:=52) rfl (fun g10=>nomatch g10) (fun g10=>?_)
 refine tf ?_
 exact Gr
 refine jb ?_
 refine au.cases (s:=46) rfl (fun g11=>nomatch g11) (fun g11=>?_)
 refine CD ?_
 refine rM ?_
 refine au.cases (s:=52) rfl (fun g12=>nomatch g12) (fun g12=>?_)
 refine Ih ?_
 exact Gr
def RX{x:ax4}:aQ prog 86 [(true,[val (vI x.Id),val (vI x.ax8),sl .v (x.ax5.map bF),sl .v (x.Out.map ar)])] (aB [(false,[val (.bool (bN x))])]):=by
 refine sF func86 fun h0 w0 Fz0=>?_
 refine sn 0 2 fun hl0_2=>?_
 refine sn 0 3 fun hl0_3=>?_
 refine py ?_
 refine ma ?_
 refine rA ?_ (x:=lF kQ)
 refine zf1 ?_
 refine fp ?_
 refine cx 11 ?_ ?_<;>intro ga sga
 refine jH ?_
 refine au.cases (s:=17) rfl (fun g2=>?_) (fun g2=>nomatch g2)
 refine zb ?_
 refine cH ?_
 exact ME
 refine HI ?_
 refine Cd ?_
 refine ly ?_
 refine cx 17 ?_ ?_<;>intro gb sgb
 refine xd ?_
 exact ME
 refine Cz ?_
 refine rB gb ?_ (x:=jE)
 refine pI ?_
 refine sc ?_ ?_<;>intro hba
 exact ME
 have hfirst:(aK x.Id 0 23&&(aK x.ax8 0 3&&decide ((x.ax5.length:Int)≤3)))=true:=dO
 refine wV ?_
 refine HG ?_
 refine fK ?_
 refine sP [1,2,24,25,26] [1] ?_
 refine sL [1,24,25] [1] (fun k:Nat=>k≤x.ax5.length∧mT ⟨0,0,0⟩ nN rp x.ax5 k=true) (fun k:Nat=>[(26,RV.int (k:Int))]) (fun k:Nat=>[]) (fun k:Nat=>x.ax5.length - k) 0 gF bp an ?_
 rintro k ⟨hk,ha⟩
 refine cY ?_
 refine sc ?_ ?_<;>intro hbb
 have hlt:k < x.ax5.length:=ab
 have hgk:x.ax5.getD k ⟨0,0,0⟩=x.ax5[k]:=fP hlt
 have hgp:0 < k→x.ax5.getD (k - 1) ⟨0,0,0⟩=x.ax5[k - 1]:=fun h=>fP ab
 refine bv ?_
 refine sT [1,24,25,26] [1] ?_
 refine rM ?_
 refine Ow ?_
 refine rX ?_ (x:=(fW aj nU DD))
 refine rS ?_
 refine zfe ?_
 refine aU ?_
 refine sO [(1,_),(3,_),(4,_),(24,_),(25,_),(26,_)] [(1,_),(4,(65,iY))] ?_
 refine cC ?_
 refine dA 0 ?_ (x:=lD iY vd)
 refine dA 1 ?_ (x:=cL [(true,iY)] [(true,iY)] an2 (hs:=by exact arn))
 refine dA 3 ?_ (x:=nT)
 refine dA 7 ?_ (x:=sM)
 refine dx 34 ?_ ?_<;>intro gc sgc
 refine dT 15 gc ?_
 refine dT 31 gc ?_
 refine dT 63 gc ?_
 refine dU 127 ?_
 refine dU 255 ?_
 refine dU 127 ?_
 refine dU 639 ?_
 refine dU 2047 ?_
 refine CX ?_
 refine dU 127 ?_
 refine dU 16511 ?_
 refine dU 65535 ?_
 refine dT 131071 gc ?_
 refine dA 262143 ?_ (x:=bj gc)
 refine cH ?_
 exact Ya
 refine dB 15 gc ?_ (x:=sM)
 refine dB 31 gc ?_ (x:=jE)
 refine dB 63 gc ?_ (x:=sM)
 refine dx 37 ?_ ?_<;>intro gd sgd
 refine dB 127 gd ?_ (x:=lF tB)
 refine dB 255 gd ?_ (x:=lD [sl .v _] kp)
 refine dB 127 gd ?_ (x:=sM)
 refine dB 639 gd ?_ (x:=jo)
 refine dB 2047 gd ?_ (x:=aZ (k:=k - 1) aj il an ab bE ak)
 refine dB 4095 gd ?_ (x:=cR aj rt az)
 refine dB 8191 gd ?_ (x:=lE [val _] bb)
 refine dB 127 gd ?_ (x:=lF rt)
 refine dB 16511 gd ?_ (x:=lD [val _] bb)
 refine dB 65535 gd ?_ (x:=kJ)
 refine dB 131071 gc ?_ (x:=bj gd)
 refine dA 262143 ?_ (x:=aR gc)
 refine sc ?_ ?_<;>intro hbc
 exact Ya
 exact Yb
 refine dF 127 gd ?_
 refine dF 255 gd ?_
 refine dF 127 gd ?_
 refine dF 639 gd ?_
 refine dF 2047 gd ?_
 refine dF 4095 gd ?_
 refine dF 8191 gd ?_
 refine dF 127 gd ?_
 refine dF 16511 gd ?_
 refine dF 65535 gd ?_
 refine dB 131071 gc ?_ (x:=aR gd)
 refine dA 262143 ?_ (x:=aR gc)
 refine gv ?_
 exact Yb
 have hend:k=x.ax5.length:=ab
 have hall:fh ⟨0,0,0⟩ nN rp x.ax5=true:=uY ha hend
 refine fq ?_
 refine sT [1,24,25,26] [1] ?_
 refine rA ?_ (x:=lF rr)
 refine wy ?_
 refine fK ?_
 refine sP [1,24,25,26,52,53,54] [1] ?_
 refine sL [1,24,25,26,52,53] [1] (fun k2:Nat=>k2≤x.Out.length∧(x.Out.take k2).all lA=true) (fun k2:Nat=>[(54,RV.int (k2:Int))]) (fun k2:Nat=>[]) (fun k2:Nat=>x.Out.length - k2) 0 iG bp an ?_
 rintro k2 ⟨hk2,ha2⟩
 refine cY ?_
 refine sc ?_ ?_<;>intro hbc
 have hlt2:k2 < x.Out.length:=ab
 refine bv ?_
 refine sT [1,24,25,26,52,53,54] [1] ?_
 refine xf ?_
 refine sS [1,6,24,25,26,52,53,54] [1] ?_
 refine rM ?_
 refine rA ?_ (x:=cL [(false,[val _])] [(false,[val _])] Ra (hs:=by exact RS))
 refine gx ?_
 refine sc ?_ ?_<;>intro hbd
 have hno2:lA x.Out[k2]=false:=by simpa [lA] using hbd
 have hn3:x.Out.all lA=false:=oM hlt2 hno2
 refine sS [1,6,24,25,26,52,53,54] [1] ?_
 refine rK ?_
 exact Gs
 have hyes:lA x.Out[k2]=true:=by simpa [lA] using hbd
 refine ba ?_
 refine sG [1,6,24,25,26,52,53,54] [1] ?_
 refine dI ?_
 refine nx (k2+1) (by exact ⟨ab,IV ha2 hlt2 hyes⟩)
 have hall2:x.Out.all lA=true:=mc (by rw [show x.Out.length=k2 by omega];exact ha2)
 refine bI ?_
 refine sT [1,24,25,26,52,53,54] [1] ?_
 refine rA ?_ (x:=lF rr)
 refine wy ?_
 refine IG ?_
 refine rS ?_
 exact Gs
def arq{q:ax4}{f:Int}{v:Int}:aQ prog 285 [(true,[val (vI q.Id),val (vI q.ax8),sl .v (q.ax5.map bF),sl .v (q.Out.map ar)]),(false,[val (vI f)]),(false,[val (vI v)])] (aB [(false,[val (.bool (kP q f v))])]):=by
 refine sF func285 fun h0 w0 Fz0=>?_
 refine sn 0 2 fun hl0_2=>?_
 refine sn 0 3 fun hl0_3=>?_
 refine py ?_
 refine iv ?_
 refine sT [1,2,3,6] [3] ?_
 refine HG ?_
 refine fK ?_
 refine sP [1,2,3,6,10,11,12] [3] ?_
 refine sL [1,2,3,10,11] [3] (fun k:Nat=>k≤q.ax5.length∧(q.ax5.take k).all (mg f v)=true) (fun k:Nat=>[(12,RV.int (k:Int))]) (fun k:Nat=>[]) (fun k:Nat=>q.ax5.length - k) 0 iG bp an ?_
 rintro k ⟨hk,ha⟩
 refine cY ?_
 refine sc ?_ ?_<;>intro hba
 have hlt:k < q.ax5.length:=ab
 refine bv ?_
 refine sT [1,2,3,10,11,12] [3] ?_
 refine Ow ?_
 refine zfm ?_
 refine aU ?_
 refine sO [(1,_),(2,_),(3,_),(8,_),(10,_),(11,_),(12,_)] [(3,_),(8,(65,iY))] ?_
 refine aY ?_
 refine rA ?_ (x:=lF rt)
 refine ff ?_
 refine rM ?_
 refine iw ?_
 refine cx 20 ?_ ?_<;>intro ga sga
 refine gN ?_
 refine Pz ?_
 refine rB ga ?_ (x:=lF vc)
 refine kg ?_
 refine Cd ?_
 refine jq ?_
 refine sc ?_ ?_<;>intro hbb
 have hno:mg f v q.ax5[k]=false:=Fe
 refine sS [1,2,3,8,10,11,12] [3,8] ?_
 exact Yc
 exact Yd
 refine rf ?_
 exact Yd
 have hall:q.ax5.all (mg f v)=true:=mc VA
 refine bI ?_
 refine sT [1,2,3,10,11,12] [3] ?_
 exact Ye
def ars{q:ax4}{r:Row}:aQ prog 251 [(true,[val (vI q.Id),val (vI q.ax8),sl .v (q.ax5.map bF),sl .v (q.Out.map ar)]),(true,[val (vI r.Id),sl .v (r.Values.map ar)])] (aB [(false,[val (.bool (ik q r))])]):=by
 refine sF func251 fun h0 w0 Fz0=>?_
 refine sn 0 2 fun hl0_2=>?_
 refine sn 0 3 fun hl0_3=>?_
 refine sn 1 1 fun hl1_1=>?_
 refine py ?_
 refine IH ?_
 refine CE ?_
 refine Cb ?_
 refine fp ?_
 refine cx 10 ?_ ?_<;>intro ga sga
 refine mb ?_
 exact Yf
 refine II ?_
 refine rB ga ?_ (x:=cL [(true,ct)] [(true,fJ)] QZ (hs:=by exact RT))
 refine HW ?_
 refine sc ?_ ?_<;>intro hba
 exact Yf
 have hok:bN q=true∧bM r=true:=dO
 refine Ii ?_
 refine xi ?_
 refine wy ?_
 refine fK ?_
 refine sP [2,3,4,16,17,18] [2,3] ?_
 refine sL [2,3,16,17] [2,3] (fun k:Nat=>k≤r.Values.length∧(∀i:Nat,i < k→kP q (i:Int) (r.Values.getD i 0)=true)) (fun k:Nat=>[(18,RV.int (k:Int))]) (fun k:Nat=>[]) (fun k:Nat=>r.Values.length - k) 0 (by exact ⟨ab,fun i hi=>absurd hi (Nat.not_lt_zero _)⟩) bp an ?_
 rintro k ⟨hk,ha⟩
 refine cY ?_
 refine sc ?_ ?_<;>intro hbb
 have hlt:k < r.Values.length:=ab
 refine bv ?_
 refine sT [2,3,16,17,18] [2,3] ?_
 refine rM ?_
 refine yQ ?_
 refine td ?_
 refine sS [2,3,5,6,16,17,18] [2,3] ?_
 refine ri ?_
 refine fB ?_
 refine rA ?_ (x:=cL [(true,bX),(false,[val _]),(false,[val _])] [(true,di),(false,[val _]),(false,[val _])] aob (hs:=by exact arq))
 refine gx ?_
 refine sc ?_ ?_<;>intro hbc
 have hno:ik q r=false:=anP (i:=k) (by rw [←gDt hlt];simpa using hbc)
 refine sS [2,3,5,6,16,17,18] [2,3] ?_
 refine ca ?_
 exact rb (hno.symm)
 have hyes:kP q (k:Int) (r.Values.getD k 0)=true:=by rw [←gDt hlt];simpa using hbc
 refine ba ?_
 refine sG [2,3,5,6,16,17,18] [2,3] ?_
 refine dI ?_
 refine nx (k+1) (by exact ⟨ab,fun i hi=>by by_cases e:i=k;(· subst e;exact hyes);(· exact ha i ab)⟩)
 have hall:=anO hok.1 hok.2 (fun i hi=>ha i ab)
 refine bI ?_
 refine sT [2,3,16,17,18] [2,3] ?_
 refine ca ?_
 exact rb (hall.symm)
def RY{x:ax6}:aQ prog 113 [(true,[val (vI x.Kind),val (vI x.Row.Id),sl .v (x.Row.Values.map ar),val (vI x.Field),val (vI x.Value)])] (aB [(false,[val (.bool (dK x))])]):=by
 refine sF func113 fun h0 w0 Fz0=>?_
 refine sn 0 2 fun hl0_2=>?_
 refine yY ?_
 refine uI ?_
 refine ta ?_
 refine xg ?_
 refine cx 8 ?_ ?_<;>intro ga sga
 refine zU ?_
 refine Ic ?_
 refine wB ?_
 refine Iw ?_
 refine CZ ?_
 refine zl ?_
 refine sc ?_ ?_<;>intro hba
 refine sS [1,2,3,16] [1] ?_
 refine uP ?_
 refine Ht ?_
 refine rM ?_
 refine cx 22 ?_ ?_<;>intro gb sgb
 exact Yg
 refine ix ?_
 refine au.cases (s:=27) rfl (fun g5=>nomatch g5) (fun g5=>?_)
 refine wL ?_
 exact lY
 refine zl ?_
 refine sc ?_ ?_<;>intro hbb
 refine If ?_
 refine cx 35 ?_ ?_<;>intro gb sgb
 refine HY ?_
 refine iM ?_
 refine cx 40 ?_ ?_<;>intro gc sgc
 exact MH
 exact BG
 refine ix ?_
 refine au.cases (s:=40) rfl (fun g9=>nomatch g9) (fun g9=>?_)
 refine tg ?_
 exact lY
 refine zl ?_
 refine sc ?_ ?_<;>intro hbc
 refine If ?_
 refine cx 48 ?_ ?_<;>intro gb sgb
 refine PA ?_
 refine rB gb ?_ (x:=cL [(false,[val _])] [(false,[val _])] Ra (hs:=by exact RS))
 refine iM ?_
 refine cx 53 ?_ ?_<;>intro gc sgc
 refine rB gc ?_ (x:=lF pT)
 refine Od ?_
 exact MG
 exact BG
 refine ix ?_
 refine au.cases (s:=53) rfl (fun g13=>nomatch g13) (fun g13=>?_)
 refine Ij ?_
 exact lY
 exact Yh
 refine mO ?_
 refine Iw ?_
 refine CZ ?_
 refine zl ?_
 refine sc ?_ ?_<;>intro hba
 refine sS [1,2,3,16] [1] ?_
 refine uP ?_
 refine Ht ?_
 refine rM ?_
 refine cx 22 ?_ ?_<;>intro gb sgb
 exact Yg
 refine ix ?_
 refine au.cases (s:=27) rfl (fun g17=>nomatch g17) (fun g17=>?_)
 refine wK ?_
 exact lY
 refine zl ?_
 refine sc ?_ ?_<;>intro hbb
 refine If ?_
 refine au.cases (s:=35) rfl (fun g19=>nomatch g19) (fun g19=>?_)
 refine zm ?_
 refine rM ?_
 refine au.cases (s:=40) rfl (fun g20=>nomatch g20) (fun g20=>?_)
 refine CF ?_
 exact lY
 refine zl ?_
 refine sc ?_ ?_<;>intro hbc
 refine If ?_
 refine au.cases (s:=48) rfl (fun g22=>nomatch g22) (fun g22=>?_)
 refine zf g22 ?_
 refine rA ?_ (x:=aR g22)
 refine rM ?_
 refine au.cases (s:=53) rfl (fun g23=>nomatch g23) (fun g23=>?_)
 refine zf g23 ?_
 refine rA ?_ (x:=aR g23)
 exact lY
 exact Yh
def art{x:ax6}:aQ prog 110 [(true,[val (vI x.Kind),val (vI x.Row.Id),sl .v (x.Row.Values.map ar),val (vI x.Field),val (vI x.Value)])] (aB [(false,[val (.bool (dK x))])]):=by
 refine sF func110 fun h0 w0 Fz0=>?_
 refine sn 0 2 fun hl0_2=>?_
 refine yY ?_
 refine ma ?_
 refine CZ ?_
 refine wP ?_
 refine sc ?_ ?_<;>intro hba
 refine sS [1,2,4] [1] ?_
 refine uP ?_
 refine zgt ?_
 refine rM ?_
 refine cx 10 ?_ ?_<;>intro ga sga
 refine rB ga ?_ (x:=lF vb)
 refine tl ?_
 refine cx 15 ?_ ?_<;>intro gb sgb
 refine rB gb ?_ (x:=lF pT)
 refine wF ?_
 refine kO ?_
 exact lY
 refine oE ?_
 exact lY
 refine jb ?_
 refine au.cases (s:=15) rfl (fun g4=>nomatch g4) (fun g4=>?_)
 refine zq ?_
 exact lY
 refine wP ?_
 refine sc ?_ ?_<;>intro hbb
 refine sS [1,2,4] [1] ?_
 refine ta ?_
 refine Cc ?_
 refine rM ?_
 refine cx 26 ?_ ?_<;>intro ga sga
 refine zU ?_
 refine Ic ?_
 refine wB ?_
 refine rM ?_
 refine cx 33 ?_ ?_<;>intro gb sgb
 refine HY ?_
 refine iM ?_
 refine cx 38 ?_ ?_<;>intro gc sgc
 exact MH
 exact BG
 refine ix ?_
 refine au.cases (s:=38) rfl (fun g9=>nomatch g9) (fun g9=>?_)
 refine tg ?_
 exact lY
 refine jb ?_
 refine au.cases (s:=33) rfl (fun g10=>nomatch g10) (fun g10=>?_)
 refine tf ?_
 refine rM ?_
 refine au.cases (s:=38) rfl (fun g11=>nomatch g11) (fun g11=>?_)
 refine CD ?_
 exact lY
 refine wP ?_
 refine sc ?_ ?_<;>intro hbc
 refine sS [1,2,4] [1] ?_
 refine ta ?_
 refine Cc ?_
 refine rM ?_
 refine cx 49 ?_ ?_<;>intro ga sga
 refine zU ?_
 refine Ic ?_
 refine wB ?_
 refine rM ?_
 refine cx 56 ?_ ?_<;>intro gb sgb
 refine PA ?_
 refine Oq ?_
 refine cx 61 ?_ ?_<;>intro gc sgc
 refine rB gc ?_ (x:=lF pT)
 refine zgx ?_
 exact MG
 exact BG
 refine ix ?_
 refine au.cases (s:=61) rfl (fun g16=>nomatch g16) (fun g16=>?_)
 refine Ik ?_
 exact lY
 refine jb ?_
 refine au.cases (s:=56) rfl (fun g17=>nomatch g17) (fun g17=>?_)
 refine wK ?_
 refine rM ?_
 refine au.cases (s:=61) rfl (fun g18=>nomatch g18) (fun g18=>?_)
 refine CG ?_
 exact lY
 refine ba ?_
 refine sS [1,2,4] [1] ?_
 refine rK ?_
 exact MF
end Go.Proofs.YtmekkgdboplbjaaGreatDoor
