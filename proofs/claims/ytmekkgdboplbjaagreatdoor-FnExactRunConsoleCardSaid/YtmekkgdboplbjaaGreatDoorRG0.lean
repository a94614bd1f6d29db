/- What functions of the program compute. No condition. -/
import Derived.Test.YtmekkgdboplbjaaGreatDoorRD0
import Derived.Test.YtmekkgdboplbjaaGreatDoorRF0
set_option linter.all false
namespace Go.Proofs.YtmekkgdboplbjaaGreatDoor
open Go Go.RowKit M PV Tryz
set_option maxRecDepth 10000
attribute [local irreducible] PV.Lcl PV.LclR RV.Lcl
variable{n:Int}{xs:List Int}{x:List Row}{p1:Fl}
def avp{l:Int}{h:Int}:aE prog 74 [(false,[val (vI n)]),(false,[val (vI l)]),(false,[val (vI h)])] (aA [(false,[val (.bool (aF n l h))])]):=by
 refine sF func74 fun h0 w0 Fz0=>?_
 exact ZX
def avq{l:Int}{h:Int}:aE prog 75 [(false,[val (vI n)]),(false,[val (vI l)]),(false,[val (vI h)])] (aA [(false,[val (.bool (aF n l h))])]):=by
 refine sF func75 fun h0 w0 Fz0=>?_
 exact ZX
def avr:aE prog 176 [(false,[val (vI n)])] (aA [(false,[val (.bool (aF n 0 2))])]):=by
 refine sF func176 fun h0 w0 Fz0=>?_
 refine xD ?_
 refine za2 ?_
 exact NT
def avs{x:Int}:aE prog 230 [(false,[sl .v (xs.map ar)]),(false,[val (vI x)])] (aA [(false,[val (.bool (ce xs x))])]):=by
 refine sF func230 fun h0 w0 Fz0=>?_
 refine sj 0 fun hl0=>?_
 refine tE ?_
 refine cm ?_
 refine sP [0,1,4,5] [] ?_
 refine sL [0,1] [] (fun k:Nat=>k≤xs.length∧(xs.take k).any (fun y=>y==x)=false) (fun k:Nat=>[(5,RV.int (k:Int))]) (fun k:Nat=>[]) (fun k:Nat=>xs.length - k) 0 jp bu ao ?_
 rintro k ⟨hk,ha⟩
 refine pj ?_
 refine sc ?_ ?_<;>intro hba
 have hlt:k < xs.length:=ab
 refine aY ?_
 refine sS [0,1,5] [] ?_
 refine xF ?_
 refine vE ?_
 refine sc ?_ ?_<;>intro hbb
 refine sS [0,1,5] [] ?_
 exact ZY
 refine DG ?_
 refine bO ?_
 exact ZZ
 refine DH ?_
 exact zaf
def amn{x:Int}:aE prog 227 [(false,[sl .v (xs.map ar)]),(false,[val (vI x)])] (aA [(false,[val (.bool (ce xs x))])]):=by
 refine sF func227 fun h0 w0 Fz0=>?_
 refine sj 0 fun hl0=>?_
 refine tE ?_
 refine Av ?_
 refine sP [0,1,4,7,8,9] [] ?_
 refine sL [0,1,7,8] [] (fun k:Nat=>k≤xs.length∧(xs.take k).any (fun y=>y==x)=false) (fun k:Nat=>[(9,RV.int (k:Int))]) (fun k:Nat=>[]) (fun k:Nat=>xs.length - k) 0 jp bu ao ?_
 rintro k ⟨hk,ha⟩
 refine bP ?_
 refine sc ?_ ?_<;>intro hba
 have hlt:k < xs.length:=ab
 refine aY ?_
 refine sS [0,1,7,8,9] [] ?_
 refine rI ?_
 refine sS [0,1,6,7,8,9] [] ?_
 refine gn ?_
 refine jw ?_
 refine sc ?_ ?_<;>intro hbb
 refine sS [0,1,6,7,8,9] [] ?_
 exact ZY
 refine aK ?_
 refine sG [0,1,6,7,8,9] [] ?_
 refine cc ?_
 exact ZZ
 refine be ?_
 refine sS [0,1,7,8,9] [] ?_
 exact zaf
def amo{x:Int}:aE prog 345 [(false,[sl .v (xs.map ar)]),(false,[val (vI x)])] (aA [(false,[val (.bool (ce xs x))])]):=by
 refine sF func345 fun h0 w0 Fz0=>?_
 refine sj 0 fun hl0=>?_
 refine qh ?_
 refine mw ?_
 refine zaq ?_
 exact Cr
def avt{x:List Int}(hb:x.length≤68719476736):aE prog 172 [(false,[sl .v (x.map ar)])] (aA [(false,[sl ai (x.map ar)])]):=by
 refine sF func172 fun h0 w0 Fz0=>?_
 refine sj 0 fun hl0=>?_
 refine pi ?_
 refine lI ?_
 refine Qv ?_
 refine dJ ?_
 exact Cq
def Tz{x:Row}:aE prog 170 [(true,[val (vI x.Id),sl .v (x.Values.map ar)])] (aA [(false,[val (.bool (bA x))])]):=by
 refine sF func170 fun h0 w0 Fz0=>?_
 refine sn 0 1 fun hl0_1=>?_
 refine xm ?_
 refine jd ?_
 refine rA ?_ (x:=lF oH)
 refine xG ?_
 refine sP [1,2,6,7,8] [1] ?_
 refine sL [1,6,7] [1] (fun k:Nat=>k≤x.Values.length∧(x.Values.take k).all nz=true) (fun k:Nat=>[(8,RV.int (k:Int))]) (fun k:Nat=>[]) (fun k:Nat=>x.Values.length - k) 0 jp bu ao ?_
 rintro k ⟨hk,ha⟩
 refine bP ?_
 refine sc ?_ ?_<;>intro hba
 have hlt:k < x.Values.length:=ab
 refine aY ?_
 refine sT [1,6,7,8] [1] ?_
 refine rI ?_
 refine sS [1,4,6,7,8] [1] ?_
 refine za2 ?_
 refine eZ ?_
 refine sc ?_ ?_<;>intro hbb
 have hno:nz x.Values[k]=false:=Gb
 refine sS [1,4,6,7,8] [1] ?_
 exact zb1
 have hyes:nz x.Values[k]=true:=Gb
 refine aK ?_
 refine sG [1,4,6,7,8] [1] ?_
 exact Cs
 have hall:x.Values.all nz=true:=mz Xl
 refine be ?_
 refine sT [1,6,7,8] [1] ?_
 refine rA ?_ (x:=lF kW)
 refine xK ?_
 refine cx 19 ?_ ?_<;>intro ga sga
 exact zb4
 refine lG ?_
 exact NU
def KJ{x:Row}:aE prog 98 [(true,[val (vI x.Id),sl .v (x.Values.map ar)])] (aA [(false,[val (.bool (bA x))])]):=by
 refine sF func98 fun h0 w0 Fz0=>?_
 refine sn 0 1 fun hl0_1=>?_
 refine xm ?_
 refine jd ?_
 refine Ak ?_
 refine sL [1] [1] (fun k:Nat=>k≤x.Values.length∧(x.Values.take k).all nz=true) (fun k:Nat=>[(3,RV.int (k:Int))]) (fun k:Nat=>[]) (fun k:Nat=>x.Values.length - k) 0 jp bu ao ?_
 rintro k ⟨hk,ha⟩
 refine bI ?_
 refine rA ?_ (x:=lF oH)
 refine qc ?_
 refine dC ?_
 refine sc ?_ ?_<;>intro hba
 have hlt:k < x.Values.length:=ab
 refine aY ?_
 refine sT [1,3] [1] ?_
 refine rA ?_ (x:=lF oH)
 refine Je ?_
 refine tu ?_
 refine zbd ?_
 refine sc ?_ ?_<;>intro hbb
 have hno:nz x.Values[k]=false:=Gb
 refine sS [1,3] [1] ?_
 exact zb1
 have hyes:nz x.Values[k]=true:=Gb
 refine Al ?_
 exact xf
 have hall:x.Values.all nz=true:=mz Xl
 refine DL ?_
 refine rA ?_ (x:=lF kW)
 refine Da ?_
 refine rM ?_
 refine cx 21 ?_ ?_<;>intro ga sga
 exact zb4
 refine lG ?_
 exact NU
def avu:aE prog 177 [(false,[sl .v (x.map (ci p1))])] (aA [(false,[val (.bool (x.all bA))])]):=by
 refine sF func177 fun h0 w0 Fz0=>?_
 refine sj 0 fun hl0=>?_
 refine tC ?_
 refine vm ?_
 refine Jn ?_
 refine sL [0,5,6] [] (fun k:Nat=>k≤x.length∧(x.take k).all bA=true) (fun k:Nat=>[(7,RV.int (k:Int))]) (fun k:Nat=>[]) (fun k:Nat=>x.length - k) 0 jp bu ao ?_
 rintro k ⟨hk,ha⟩
 refine bP ?_
 refine sc ?_ ?_<;>intro hba
 have hlt:k < x.length:=ab
 refine aY ?_
 refine sS [0,5,6,7] [] ?_
 refine zI ?_
 refine xi ?_
 refine sT [0,4,5,6,7] [4] ?_
 refine Ir ?_
 refine eZ ?_
 refine sc ?_ ?_<;>intro hbb
 have hno:bA x[k]=false:=Gh
 refine sS [0,4,5,6,7] [4] ?_
 refine cn ?_
 exact rb (by simp [id,po (P:=bA) hlt hno])
 have hyes:bA x[k]=true:=Gh
 refine aK ?_
 refine sG [0,4,5,6,7] [4] ?_
 exact Cs
 have hall:x.all bA=true:=mz Gv
 refine Jo ?_
 refine cn ?_
 exact rb (by simp [id,hall, *])
def avv:aE prog 87 [(false,[sl .v (x.map (ci p1))])] (aA [(false,[val (.bool (iD x))])]):=by
 refine sF func87 fun h0 w0 Fz0=>?_
 refine sj 0 fun hl0=>?_
 refine xD ?_
 refine JE ?_
 refine rM ?_
 refine cx 6 ?_ ?_<;>intro ga sga
 refine zbr ?_
 refine iq ?_
 exact zbt
 refine lG ?_
 exact zbt
def TA:aE prog 91 [(false,[sl .v (x.map (ci p1))])] (aA [(false,[val (.bool (iD x))])]):=by
 refine sF func91 fun h0 w0 Fz0=>?_
 refine sj 0 fun hl0=>?_
 refine Aw ?_
 refine sL [0] [] (fun k:Nat=>k≤x.length∧(x.take k).all bA=true) (fun k:Nat=>[(3,RV.int (k:Int))]) (fun k:Nat=>[]) (fun k:Nat=>x.length - k) 0 jp bu ao ?_
 rintro k ⟨hk,ha⟩
 refine bI ?_
 refine JF ?_
 refine sc ?_ ?_<;>intro hba
 have hlt:k < x.length:=ab
 refine aY ?_
 refine sS [0,3] [] ?_
 refine iO ?_
 refine zbx ?_
 refine eZ ?_
 refine sc ?_ ?_<;>intro hbb
 have hno:bA x[k]=false:=Gh
 refine DZ ?_
 exact rb (by simp [iD,po (P:=bA) hlt hno])
 have hyes:bA x[k]=true:=Gh
 refine xz ?_
 exact xf
 have hall:x.all bA=true:=mz Gv
 refine xA ?_
 refine JE ?_
 refine dI ?_
 exact rb (by simp [iD,hall, *])
def avw{x:Row}(hb:kp x≤68719476736):aE prog 283 [(true,[val (vI x.Id),sl .v (x.Values.map ar)])] (aA [(true,[val (vI x.Id),sl ai (x.Values.map ar)])]):=by
 refine sF func283 fun h0 w0 Fz0=>?_
 refine sn 0 1 fun hl0_1=>?_
 have hbu:=hb
 simp only [kp,fU,bh] at hbu
 refine xm ?_
 refine Ra ?_
 refine dA 0 ?_ (x:=lF kW)
 refine tQ ?_
 refine vL ?_
 refine zc5 ?_
 refine dA 31 ?_ (x:=cz (qs:=uZ) (cs:=iA) ak jh nB ak1 aj iY rfl aj)
 exact zc6
def amp{x:Row}(hb:kp x≤68719476736):aE prog 102 [(true,[val (vI x.Id),sl .v (x.Values.map ar)])] (aA [(true,[val (vI x.Id),sl ai (x.Values.map ar)])]):=by
 refine sF func102 fun h0 w0 Fz0=>?_
 refine sn 0 1 fun hl0_1=>?_
 have hbu:=hb
 simp only [kp,fU,bh] at hbu
 refine xm ?_
 refine Ra ?_
 refine dA 0 ?_ (x:=lF kW)
 refine tQ ?_
 refine tR ?_
 refine vL ?_
 refine Ed ?_
 refine dA 28 ?_ (x:=ml ak bY jy rfl rfl ak oW sC bm bm)
 refine dA 63 ?_ (x:=cz (qs:=uZ) (cs:=iA) ak jh nB ak1 aj iY rfl aj)
 refine dA 127 ?_ (x:=bR (ag:=true) (vs:=iA) jg ao aj ay)
 exact zc9
def amq(hb:iQ x≤68719476736):aE prog 246 [(false,[sl .v (x.map (ci p1))])] (aA [(false,[sl aJ (x.map (ci ai))])]):=by
 refine sF func246 fun h0 w0 Fz0=>?_
 refine sj 0 fun hl0=>?_
 have hbu:=hb
 simp only [iQ] at hbu
 refine sR ?_
 refine zca ?_
 refine Iv ?_
 refine qk ?_
 refine vm ?_
 refine dm ?_
 refine sP [0,2,3,7,8,9] [] ?_
 refine sL [0,2,7,8] [] (fun k:Nat=>k≤x.length) (fun k:Nat=>[(3,RV.slc aJ ((x.take k).map (ci ai))),(9,RV.int (k:Int))]) (fun k:Nat=>[]) (fun k:Nat=>x.length - k) 0 ab kd ao ?_
 rintro k hk
 refine bP ?_
 refine sc ?_ ?_<;>intro hba
 have hlt:k < x.length:=ab
 have hwm:=dK (f:=kp) hlt
 have htl:(x.take k).length=k:=dh
 refine aY ?_
 refine sS [0,2,3,7,8,9] [] ?_
 refine zI ?_
 refine xi ?_
 refine sH [0,2,3,5,7,8,9] [5] ?_
 refine bL ?_
 refine xM ?_
 refine rA ?_ (x:=cL jK ly ar5 (hs:=by exact avw ab))
 refine CP ?_
 exact zch
 exact zci
def avx(hb:iQ x≤68719476736):aE prog 287 [(false,[sl .v (x.map (ci p1))])] (aA [(false,[sl aJ (x.map (ci ai))])]):=by
 refine sF func287 fun h0 w0 Fz0=>?_
 refine sj 0 fun hl0=>?_
 have hbu:=hb
 simp only [iQ] at hbu
 refine sR ?_
 refine zca ?_
 refine Iv ?_
 refine tF ?_
 refine sL [0,2] [] (fun k:Nat=>k≤x.length) (fun k:Nat=>[(3,RV.slc aJ ((x.take k).map (ci ai))),(4,RV.int (k:Int))]) (fun k:Nat=>[]) (fun k:Nat=>x.length - k) 0 ab kd ao ?_
 rintro k hk
 refine bI ?_
 refine JF ?_
 refine sc ?_ ?_<;>intro hba
 have hlt:k < x.length:=ab
 have hwm:=dK (f:=kp) hlt
 have htl:(x.take k).length=k:=dh
 refine Jv ?_
 refine bL ?_
 refine iO ?_
 refine zI ?_
 refine rA ?_ (x:=cL jK ly akV (hs:=by exact amp ab))
 refine CP ?_
 refine dJ ?_
 refine sG [0,2,3,4] [] ?_
 exact NV
 exact NW
def avy{x:fw}:aE prog 175 [(true,[val (vI x.Field),val (vI x.Low),val (vI x.High)])] (aA [(false,[val (.bool (oC x))])]):=by
 refine sF func175 fun h0 w0 Fz0=>?_
 refine sR ?_
 refine zcn ?_
 refine rA ?_ (x:=lF rV)
 refine eJ ?_
 refine rA ?_ (x:=cL aM aM Kh (hs:=Gi))
 refine rM ?_
 refine cx 6 ?_ ?_<;>intro ga sga
 refine QR ?_
 refine rB ga ?_ (x:=jc)
 refine rG ?_
 refine cx 11 ?_ ?_<;>intro gb sgb
 refine rB gb ?_ (x:=lF ED)
 refine ou ?_
 refine rB gb ?_ (x:=lF wi)
 refine Rc ?_
 refine hZ ?_
 refine cx 18 ?_ ?_<;>intro gc sgc
 refine rB gc ?_ (x:=lF wi)
 refine pk ?_
 refine rB gc ?_ (x:=mp)
 refine tS ?_
 exact zy
 refine kl ?_
 exact zy
 refine hY ?_
 exact zcz
 refine ip ?_
 refine rN 11 ?_
 refine dz ?_
 exact zcz
def avz{x:fw}:aE prog 178 [(true,[val (vI x.Field),val (vI x.Low),val (vI x.High)])] (aA [(false,[val (.bool (oC x))])]):=by
 refine sF func178 fun h0 w0 Fz0=>?_
 refine sR ?_
 refine zcn ?_
 refine rA ?_ (x:=lF rV)
 refine Da ?_
 refine rM ?_
 refine cx 6 ?_ ?_<;>intro ga sga
 refine QR ?_
 refine rB ga ?_ (x:=lF wi)
 refine Jb ?_
 refine rM ?_
 refine cx 13 ?_ ?_<;>intro gb sgb
 refine rB gb ?_ (x:=lF wi)
 refine Rc ?_
 refine jP ?_
 exact zy
 refine hY ?_
 exact zy
 refine ip ?_
 refine rN 13 ?_
 refine dz ?_
 exact zy
def avA{x:List Int}:aE prog 179 [(false,[sl .v (x.map ar)])] (aA [(false,[val (.bool (oE x))])]):=by
 refine sF func179 fun h0 w0 Fz0=>?_
 refine sj 0 fun hl0=>?_
 refine Aw ?_
 refine sL [0] [] (fun k:Nat=>k≤x.length∧(x.take k).all lL=true) (fun k:Nat=>[(3,RV.int (k:Int))]) (fun k:Nat=>[]) (fun k:Nat=>x.length - k) 0 jp bu ao ?_
 rintro k ⟨hk,ha⟩
 refine pj ?_
 refine sc ?_ ?_<;>intro hba
 have hlt:k < x.length:=ab
 refine aY ?_
 refine sS [0,3] [] ?_
 refine xF ?_
 refine zbd ?_
 refine sc ?_ ?_<;>intro hbb
 have hno:lL x[k]=false:=by simpa [lL] using hbb
 refine DZ ?_
 exact rb (by simp [oE,po (P:=lL) hlt hno])
 have hyes:lL x[k]=true:=by simpa [lL] using hbb
 refine xz ?_
 exact xf
 have hall:x.all lL=true:=mz Gv
 refine xA ?_
 refine jv ?_
 refine JI ?_
 refine dI ?_
 exact rb (by simp [oE,hall, *])
def avB{x:aC7}:aE prog 90 [(true,[val (vI x.Id),val (vI x.aDb),sl .v (x.aC8.map bM),sl .v (x.Out.map ar)])] (aA [(false,[val (.bool (bp x))])]):=by
 refine sF func90 fun h0 w0 Fz0=>?_
 refine sn 0 2 fun hl0_2=>?_
 refine sn 0 3 fun hl0_3=>?_
 refine om ?_
 refine jd ?_
 refine Ak ?_
 refine sL [1] [1] (fun k:Nat=>k≤x.aC8.length∧mA ⟨0,0,0⟩ oC rR x.aC8 k=true) (fun k:Nat=>[(3,RV.int (k:Int))]) (fun k:Nat=>[]) (fun k:Nat=>x.aC8.length - k) 0 fS bu ao ?_
 rintro k ⟨hk,ha⟩
 refine bI ?_
 refine Ag ?_
 refine dC ?_
 refine sc ?_ ?_<;>intro hba
 have hlt:k < x.aC8.length:=ab
 have hgk:x.aC8.getD k ⟨0,0,0⟩=x.aC8[k]:=fy hlt
 have hgp:0 < k→x.aC8.getD (k - 1) ⟨0,0,0⟩=x.aC8[k - 1]:=fun h=>fy ab
 refine fT ?_
 refine sQ [1,3] [1] ?_
 refine Rv ?_
 refine dA 1 ?_ (x:=lD [sl .v _] kq)
 refine zda ?_
 refine dA 15 ?_ (x:=lE tn AY)
 refine dA 31 ?_ (x:=cL zo zo ar1 (hs:=by exact avz))
 refine dA 63 ?_ (x:=nT)
 refine dA 127 ?_ (x:=sM)
 refine dx 18 ?_ ?_<;>intro ga sga
 refine dT 255 ga ?_
 refine dT 511 ga ?_
 refine dT 1023 ga ?_
 refine dU 2047 ?_
 refine dU 4095 ?_
 refine dU 2047 ?_
 refine dU 16383 ?_
 refine dU 32767 ?_
 refine dU 65535 ?_
 refine dU 2047 ?_
 refine dU 133119 ?_
 refine dU 2047 ?_
 refine dU 526335 ?_
 refine dU 1968127 ?_
 refine dU 4065279 ?_
 refine dU 8259583 ?_
 refine dU 16777215 ?_
 refine dT 33554431 ga ?_
 refine dA 67108863 ?_ (x:=cd ga)
 refine fH ?_
 exact zdb
 refine dB 255 ga ?_ (x:=sM)
 refine dB 511 ga ?_ (x:=iN)
 refine dB 1023 ga ?_ (x:=sM)
 refine dx 21 ?_ ?_<;>intro gb sgb
 refine dB 2047 gb ?_ (x:=lF kV)
 refine dB 4095 gb ?_ (x:=lD [sl .v _] kq)
 refine dB 2047 gb ?_ (x:=sM)
 refine dB 16383 gb ?_ (x:=aS ak ic ao aj bD aj)
 refine dB 32767 gb ?_ (x:=cr ak rV ay)
 refine dB 65535 gb ?_ (x:=lE [val _] aV)
 refine dB 2047 gb ?_ (x:=lF kV)
 refine dB 133119 gb ?_ (x:=lD [sl .v _] kq)
 refine dB 2047 gb ?_ (x:=sM)
 refine dB 526335 gb ?_ (x:=hP)
 refine dB 1968127 gb ?_ (x:=aS (k:=k - 1) ak ic ao ab bD aj)
 refine dB 4065279 gb ?_ (x:=cr ak rV ay)
 refine dB 8259583 gb ?_ (x:=lE [val _] aV)
 refine dB 16777215 gb ?_ (x:=mp)
 refine dB 33554431 ga ?_ (x:=cd gb)
 refine dA 67108863 ?_ (x:=bF ga)
 refine sc ?_ ?_<;>intro hbb
 exact zdb
 exact zdc
 refine dF 2047 gb ?_
 refine dF 4095 gb ?_
 refine dF 2047 gb ?_
 refine dF 16383 gb ?_
 refine dF 32767 gb ?_
 refine dF 65535 gb ?_
 refine dF 2047 gb ?_
 refine dF 133119 gb ?_
 refine dF 2047 gb ?_
 refine dF 526335 gb ?_
 refine dF 1968127 gb ?_
 refine dF 4065279 gb ?_
 refine dF 8259583 gb ?_
 refine dF 16777215 gb ?_
 refine dB 33554431 ga ?_ (x:=bF gb)
 refine dA 67108863 ?_ (x:=bF ga)
 refine gB ?_
 exact zdc
 have hend:k=x.aC8.length:=ab
 have hall:eT ⟨0,0,0⟩ oC rR x.aC8=true:=ue ha hend
 refine DL ?_
 refine rA ?_ (x:=lF jf)
 refine Da ?_
 refine rM ?_
 refine cx 41 ?_ ?_<;>intro ga sga
 refine rB ga ?_ (x:=lF rU)
 refine Jb ?_
 refine rM ?_
 refine cx 46 ?_ ?_<;>intro gb sgb
 refine Do ?_
 refine rB gb ?_ (x:=lN ic)
 refine rB gb ?_ (x:=mp)
 refine hZ ?_
 refine cx 52 ?_ ?_<;>intro gc sgc
 refine IJ ?_
 refine rB gc ?_ (x:=cL cf cC ar2 (hs:=by exact avA))
 refine tS ?_
 exact NX
 refine kl ?_
 exact NX
 refine hY ?_
 exact zdg
 refine ip ?_
 refine rN 46 ?_
 refine dz ?_
 exact zdg
def KK{x:aC7}:aE prog 86 [(true,[val (vI x.Id),val (vI x.aDb),sl .v (x.aC8.map bM),sl .v (x.Out.map ar)])] (aA [(false,[val (.bool (bp x))])]):=by
 refine sF func86 fun h0 w0 Fz0=>?_
 refine sn 0 2 fun hl0_2=>?_
 refine sn 0 3 fun hl0_3=>?_
 refine om ?_
 refine jd ?_
 refine rA ?_ (x:=lF jf)
 refine Pw ?_
 refine dq ?_
 refine cx 11 ?_ ?_<;>intro ga sga
 refine ko ?_
 refine rY 17 ?_
 refine kS ?_
 exact NY
 refine rB ga ?_ (x:=lF rU)
 refine RA ?_
 refine nq ?_
 refine cx 17 ?_ ?_<;>intro gb sgb
 refine tK ?_
 exact NY
 refine Do ?_
 refine rB gb ?_ (x:=lN ic)
 refine IY ?_
 refine sc ?_ ?_<;>intro hba
 exact NY
 have hfirst:(aF x.Id 0 23&&(aF x.aDb 0 3&&decide ((x.aC8.length:Int)≤3)))=true:=cS
 refine tG ?_
 refine Ag ?_
 refine dm ?_
 refine sP [1,2,24,25,26] [1] ?_
 refine sL [1,24,25] [1] (fun k:Nat=>k≤x.aC8.length∧mA ⟨0,0,0⟩ oC rR x.aC8 k=true) (fun k:Nat=>[(26,RV.int (k:Int))]) (fun k:Nat=>[]) (fun k:Nat=>x.aC8.length - k) 0 fS bu ao ?_
 rintro k ⟨hk,ha⟩
 refine bP ?_
 refine sc ?_ ?_<;>intro hbb
 have hlt:k < x.aC8.length:=ab
 have hgk:x.aC8.getD k ⟨0,0,0⟩=x.aC8[k]:=fy hlt
 have hgp:0 < k→x.aC8.getD (k - 1) ⟨0,0,0⟩=x.aC8[k - 1]:=fun h=>fy ab
 refine aY ?_
 refine sT [1,24,25,26] [1] ?_
 refine rM ?_
 refine Qi ?_
 refine rX ?_ (x:=(gW ak pp Km))
 refine rS ?_
 refine zds ?_
 refine bg ?_
 refine sU [1,3,4,24,25,26] [1] [4] ?_
 refine cJ ?_
 refine dA 0 ?_ (x:=lD tn AY)
 refine dA 1 ?_ (x:=cL zo zo arZ (hs:=by exact avy))
 refine dA 3 ?_ (x:=nT)
 refine dA 7 ?_ (x:=sM)
 refine dx 34 ?_ ?_<;>intro gc sgc
 refine dT 15 gc ?_
 refine dT 31 gc ?_
 refine dT 63 gc ?_
 refine dU 127 ?_
 refine dU 255 ?_
 refine dU 127 ?_
 refine dU 639 ?_
 refine dU 2047 ?_
 refine Eb ?_
 refine dU 127 ?_
 refine dU 16511 ?_
 refine dU 65535 ?_
 refine dT 131071 gc ?_
 refine dA 262143 ?_ (x:=cd gc)
 refine fH ?_
 exact zdw
 refine dB 15 gc ?_ (x:=sM)
 refine dB 31 gc ?_ (x:=iN)
 refine dB 63 gc ?_ (x:=sM)
 refine dx 37 ?_ ?_<;>intro gd sgd
 refine dB 127 gd ?_ (x:=lF kV)
 refine dB 255 gd ?_ (x:=lD [sl .v _] kq)
 refine dB 127 gd ?_ (x:=sM)
 refine dB 639 gd ?_ (x:=hP)
 refine dB 2047 gd ?_ (x:=aS (k:=k - 1) ak ic ao ab bD aj)
 refine dB 4095 gd ?_ (x:=cr ak rV ay)
 refine dB 8191 gd ?_ (x:=lE [val _] aV)
 refine dB 127 gd ?_ (x:=lF rV)
 refine dB 16511 gd ?_ (x:=lD [val _] aV)
 refine dB 65535 gd ?_ (x:=jc)
 refine dB 131071 gc ?_ (x:=cd gd)
 refine dA 262143 ?_ (x:=bF gc)
 refine sc ?_ ?_<;>intro hbc
 exact zdw
 exact zdx
 refine dF 127 gd ?_
 refine dF 255 gd ?_
 refine dF 127 gd ?_
 refine dF 639 gd ?_
 refine dF 2047 gd ?_
 refine dF 4095 gd ?_
 refine dF 8191 gd ?_
 refine dF 127 gd ?_
 refine dF 16511 gd ?_
 refine dF 65535 gd ?_
 refine dB 131071 gc ?_ (x:=bF gd)
 refine dA 262143 ?_ (x:=bF gc)
 refine gB ?_
 exact zdx
 have hend:k=x.aC8.length:=ab
 have hall:eT ⟨0,0,0⟩ oC rR x.aC8=true:=ue ha hend
 refine gk ?_
 refine sT [1,24,25,26] [1] ?_
 refine vO ?_
 refine xG ?_
 refine sP [1,24,25,26,52,53,54] [1] ?_
 refine sL [1,24,25,26,52,53] [1] (fun k2:Nat=>k2≤x.Out.length∧(x.Out.take k2).all lL=true) (fun k2:Nat=>[(54,RV.int (k2:Int))]) (fun k2:Nat=>[]) (fun k2:Nat=>x.Out.length - k2) 0 jp bu ao ?_
 rintro k2 ⟨hk2,ha2⟩
 refine bP ?_
 refine sc ?_ ?_<;>intro hbc
 have hlt2:k2 < x.Out.length:=ab
 refine aY ?_
 refine sT [1,24,25,26,52,53,54] [1] ?_
 refine rI ?_
 refine sS [1,6,24,25,26,52,53,54] [1] ?_
 refine rM ?_
 refine rA ?_ (x:=cL aM aM Kh (hs:=Gi))
 refine eZ ?_
 refine sc ?_ ?_<;>intro hbd
 have hno2:lL x.Out[k2]=false:=by simpa [lL] using hbd
 have hn3:x.Out.all lL=false:=po hlt2 hno2
 refine sS [1,6,24,25,26,52,53,54] [1] ?_
 refine rK ?_
 exact Hu
 have hyes:lL x.Out[k2]=true:=by simpa [lL] using hbd
 refine aK ?_
 refine sG [1,6,24,25,26,52,53,54] [1] ?_
 refine cc ?_
 refine nx (k2+1) (by exact ⟨ab,Ke ha2 hlt2 hyes⟩)
 have hall2:x.Out.all lL=true:=mz (by rw [show x.Out.length=k2 by omega];exact ha2)
 refine be ?_
 refine sT [1,24,25,26,52,53,54] [1] ?_
 refine vO ?_
 refine qc ?_
 refine JJ ?_
 refine rS ?_
 exact Hu
def avC{q:aC7}{f:Int}{v:Int}:aE prog 285 [(true,[val (vI q.Id),val (vI q.aDb),sl .v (q.aC8.map bM),sl .v (q.Out.map ar)]),(false,[val (vI f)]),(false,[val (vI v)])] (aA [(false,[val (.bool (kU q f v))])]):=by
 refine sF func285 fun h0 w0 Fz0=>?_
 refine sn 0 2 fun hl0_2=>?_
 refine sn 0 3 fun hl0_3=>?_
 refine om ?_
 refine dp ?_
 refine sT [1,2,3,6] [3] ?_
 refine Ag ?_
 refine dm ?_
 refine sP [1,2,3,6,10,11,12] [3] ?_
 refine sL [1,2,3,10,11] [3] (fun k:Nat=>k≤q.aC8.length∧(q.aC8.take k).all (mB f v)=true) (fun k:Nat=>[(12,RV.int (k:Int))]) (fun k:Nat=>[]) (fun k:Nat=>q.aC8.length - k) 0 jp bu ao ?_
 rintro k ⟨hk,ha⟩
 refine bP ?_
 refine sc ?_ ?_<;>intro hba
 have hlt:k < q.aC8.length:=ab
 refine aY ?_
 refine sT [1,2,3,10,11,12] [3] ?_
 refine Qi ?_
 refine ze3 ?_
 refine sV [1,2,3,8,10,11,12] [3] [8] ?_
 refine rA ?_ (x:=lF rV)
 refine eJ ?_
 refine rM ?_
 refine iC ?_
 refine cx 20 ?_ ?_<;>intro ga sga
 refine fI ?_
 refine QR ?_
 refine rB ga ?_ (x:=lF wi)
 refine RA ?_
 refine iq ?_
 refine sc ?_ ?_<;>intro hbb
 have hno:mB f v q.aC8[k]=false:=GG
 refine sS [1,2,3,8,10,11,12] [3,8] ?_
 exact ze6
 exact ze7
 refine nt ?_
 exact ze7
 have hall:q.aC8.all (mB f v)=true:=mz Xn
 refine be ?_
 refine sT [1,2,3,10,11,12] [3] ?_
 exact ze9
def avD{q:aC7}{r:Row}:aE prog 251 [(true,[val (vI q.Id),val (vI q.aDb),sl .v (q.aC8.map bM),sl .v (q.Out.map ar)]),(true,[val (vI r.Id),sl .v (r.Values.map ar)])] (aA [(false,[val (.bool (ib q r))])]):=by
 refine sF func251 fun h0 w0 Fz0=>?_
 refine sn 0 2 fun hl0_2=>?_
 refine sn 0 3 fun hl0_3=>?_
 refine sn 1 1 fun hl1_1=>?_
 refine om ?_
 refine JK ?_
 refine dp ?_
 refine sT [2,3,4] [2,3] ?_
 refine zJ ?_
 refine dq ?_
 refine cx 10 ?_ ?_<;>intro ga sga
 refine gY ?_
 exact zed
 refine zee ?_
 refine kP ?_
 refine sc ?_ ?_<;>intro hba
 exact zed
 have hok:bp q=true∧bA r=true:=cS
 refine cg ?_
 refine sS [2,3,4] [2,3] ?_
 refine rA ?_ (x:=lF oH)
 refine xG ?_
 refine sP [2,3,4,16,17,18] [2,3] ?_
 refine sL [2,3,16,17] [2,3] (fun k:Nat=>k≤r.Values.length∧(∀i:Nat,i < k→kU q (i:Int) (r.Values.getD i 0)=true)) (fun k:Nat=>[(18,RV.int (k:Int))]) (fun k:Nat=>[]) (fun k:Nat=>r.Values.length - k) 0 (by exact ⟨ab,fun i hi=>absurd hi (Nat.not_lt_zero _)⟩) bu ao ?_
 rintro k ⟨hk,ha⟩
 refine bP ?_
 refine sc ?_ ?_<;>intro hbb
 have hlt:k < r.Values.length:=ab
 refine aY ?_
 refine sT [2,3,16,17,18] [2,3] ?_
 refine rM ?_
 refine tu ?_
 refine oq ?_
 refine sS [2,3,5,6,16,17,18] [2,3] ?_
 refine tT ?_
 refine zej ?_
 refine eZ ?_
 refine sc ?_ ?_<;>intro hbc
 have hno:ib q r=false:=arQ (i:=k) (by rw [←gDt hlt];simpa using hbc)
 refine sS [2,3,5,6,16,17,18] [2,3] ?_
 refine cn ?_
 exact rb (hno.symm)
 have hyes:kU q (k:Int) (r.Values.getD k 0)=true:=by rw [←gDt hlt];simpa using hbc
 refine aK ?_
 refine sG [2,3,5,6,16,17,18] [2,3] ?_
 refine cc ?_
 refine nx (k+1) (by exact ⟨ab,fun i hi=>by by_cases e:i=k;(· subst e;exact hyes);(· exact ha i ab)⟩)
 have hall:=arP hok.1 hok.2 (fun i hi=>ha i ab)
 refine be ?_
 refine sT [2,3,16,17,18] [2,3] ?_
 refine cn ?_
 exact rb (hall.symm)
def TB{x:aC9}:aE prog 113 [(true,[val (vI x.Kind),val (vI x.Row.Id),sl .v (x.Row.Values.map ar),val (vI x.Field),val (vI x.Value)])] (aA [(false,[val (.bool (ee x))])]):=by
 refine sF func113 fun h0 w0 Fz0=>?_
 refine sn 0 2 fun hl0_2=>?_
 refine zO ?_
 refine rH ?_
 refine tB ?_
 refine xK ?_
 refine cx 8 ?_ ?_<;>intro ga sga
 refine AE ?_
 refine Jp ?_
 refine vo ?_
 refine dr ?_
 refine mx ?_
 refine Ec ?_
 refine Ae ?_
 refine sc ?_ ?_<;>intro hba
 exact zeu
 refine Ae ?_
 refine sc ?_ ?_<;>intro hbb
 refine Jq ?_
 refine cx 35 ?_ ?_<;>intro gb sgb
 refine Jh ?_
 refine hZ ?_
 refine cx 40 ?_ ?_<;>intro gc sgc
 exact Ob
 exact Cu
 refine hY ?_
 refine rM ?_
 refine rN 40 ?_
 exact rx
 refine Ae ?_
 refine sc ?_ ?_<;>intro hbc
 refine Jq ?_
 refine cx 48 ?_ ?_<;>intro gb sgb
 refine QT ?_
 refine rB gb ?_ (x:=cL aM aM Kh (hs:=Gi))
 refine hZ ?_
 refine cx 53 ?_ ?_<;>intro gc sgc
 refine rB gc ?_ (x:=lF qp)
 refine PW ?_
 exact Oa
 exact Cu
 refine hY ?_
 refine rM ?_
 refine rN 53 ?_
 exact rx
 exact zf3
 refine lG ?_
 refine dr ?_
 refine mx ?_
 refine Ec ?_
 refine Ae ?_
 refine sc ?_ ?_<;>intro hba
 exact zeu
 refine Ae ?_
 refine sc ?_ ?_<;>intro hbb
 refine Jq ?_
 refine rN 35 ?_
 refine tN ?_
 refine rN 40 ?_
 exact rx
 refine Ae ?_
 refine sc ?_ ?_<;>intro hbc
 refine Jq ?_
 refine rN 48 ?_
 refine tN ?_
 refine rN 53 ?_
 exact rx
 exact zf3
def avE{x:aC9}:aE prog 110 [(true,[val (vI x.Kind),val (vI x.Row.Id),sl .v (x.Row.Values.map ar),val (vI x.Field),val (vI x.Value)])] (aA [(false,[val (.bool (ee x))])]):=by
 refine sF func110 fun h0 w0 Fz0=>?_
 refine sn 0 2 fun hl0_2=>?_
 refine zO ?_
 refine jd ?_
 refine Ec ?_
 refine xw ?_
 refine sc ?_ ?_<;>intro hba
 refine rJ ?_
 refine xN ?_
 refine zf8 ?_
 refine rM ?_
 refine cx 10 ?_ ?_<;>intro ga sga
 refine rB ga ?_ (x:=lF we)
 refine zT ?_
 refine rM ?_
 refine cx 15 ?_ ?_<;>intro gb sgb
 refine rB gb ?_ (x:=lF qp)
 refine xn ?_
 refine jP ?_
 exact Ct
 refine hY ?_
 exact Ct
 refine ip ?_
 refine rN 15 ?_
 exact rx
 refine xw ?_
 refine sc ?_ ?_<;>intro hbb
 refine rJ ?_
 refine tB ?_
 refine Da ?_
 refine rM ?_
 refine cx 26 ?_ ?_<;>intro ga sga
 refine AE ?_
 refine Jp ?_
 refine vo ?_
 refine rM ?_
 refine cx 33 ?_ ?_<;>intro gb sgb
 refine Jh ?_
 refine hZ ?_
 refine cx 38 ?_ ?_<;>intro gc sgc
 exact Ob
 exact Cu
 refine hY ?_
 refine rM ?_
 refine rN 38 ?_
 exact rx
 refine ip ?_
 refine rN 33 ?_
 refine tN ?_
 refine rN 38 ?_
 exact rx
 refine xw ?_
 refine sc ?_ ?_<;>intro hbc
 refine rJ ?_
 refine tB ?_
 refine Da ?_
 refine rM ?_
 refine cx 49 ?_ ?_<;>intro ga sga
 refine AE ?_
 refine Jp ?_
 refine vo ?_
 refine rM ?_
 refine cx 56 ?_ ?_<;>intro gb sgb
 refine QT ?_
 refine Qg ?_
 refine cx 61 ?_ ?_<;>intro gc sgc
 refine rB gc ?_ (x:=lF qp)
 refine zfd ?_
 exact Oa
 exact Cu
 refine hY ?_
 refine rM ?_
 refine rN 61 ?_
 exact rx
 refine ip ?_
 refine rN 56 ?_
 refine tN ?_
 refine rN 61 ?_
 exact rx
 refine aK ?_
 refine rJ ?_
 refine rK ?_
 exact NZ
variable{v:bb}{p1 p2:Fl}{s:Store}
def amr:er prog 27=some [(0,1),(1,1)]:=au
def ams{t:Int}:aE prog 236 [(true,[val (vI v.Id),sl .v (v.Values.map ar),val (vI v.aDk),val (vI v.aDg)]),(false,[val (vI t)])] (aA [(false,[val (.bool (gp v t))])]):=by
 refine sF func236 fun h0 w0 Fz0=>?_
 exact zff
def amt{t:Int}:aE prog 313 [(true,[val (vI v.Id),sl .v (v.Values.map ar),val (vI v.aDk),val (vI v.aDg)]),(false,[val (vI t)])] (aA [(false,[val (.bool (gp v t))])]):=by
 refine sF func313 fun h0 w0 Fz0=>?_
 exact zff
def amu(hb:df v≤68719476736):aE prog 83 [(true,[val (vI v.Id),sl .v (v.Values.map ar),val (vI v.aDk),val (vI v.aDg)])] (aA [(true,[val (vI (fJ v).Id),sl ai ((fJ v).Values.map ar)])]):=by
 refine sF func83 fun h0 w0 Fz0=>?_
 refine sn 0 1 fun hl0_1=>?_
 have hbu:=hb
 simp only [df,fU,bh] at hbu
 refine Dg ?_
 refine Ra ?_
 refine dA 0 ?_ (x:=lF yo)
 refine tQ ?_
 refine dA 0 ?_ (x:=lF qz)
 refine zc5 ?_
 refine dA 31 ?_ (x:=cz (qs:=uZ) (cs:=iA) ak jh nB amr aj iY rfl aj)
 exact zc6
def avF{w:bb}:aE prog 171 [(true,[val (vI v.Id),sl .v (v.Values.map ar),val (vI v.aDk),val (vI v.aDg)]),(true,[val (vI w.Id),sl .v (w.Values.map ar),val (vI w.aDk),val (vI w.aDg)])] (aA [(false,[val (.bool (yh v w))])]):=by
 refine sF func171 fun h0 w0 Fz0=>?_
 refine sn 0 1 fun hl0_1=>?_
 refine sn 1 1 fun hl1_1=>?_
 refine zfh ?_
 refine Ai ?_
 refine Ee ?_
 refine rA ?_ (x:=lF nH)
 refine eJ ?_
 refine zfk ?_
 refine rM ?_
 refine cx 9 ?_ ?_<;>intro ga sga
 refine Ia ?_
 exact zfm
 refine rB ga ?_ (x:=lD pc lV)
 refine rB ga ?_ (x:=lF nH)
 refine lJ ?_
 refine rB ga ?_ (x:=cL He Cj al2 (hs:=by exact ams))
 refine jQ ?_
 exact zfm
def avG{a:bb}{b:bb}:aE prog 174 [(true,[val (vI a.Id),sl .v (a.Values.map ar),val (vI a.aDk),val (vI a.aDg)]),(true,[val (vI b.Id),sl .v (b.Values.map ar),val (vI b.aDk),val (vI b.aDg)])] (aA [(false,[val (.bool (gE a b))])]):=by
 refine sF func174 fun h0 w0 Fz0=>?_
 refine sn 0 1 fun hl0_1=>?_
 refine sn 1 1 fun hl1_1=>?_
 refine zfh ?_
 refine Ai ?_
 refine vr ?_
 refine vr ?_
 refine nu ?_
 refine rM ?_
 refine cx 10 ?_ ?_<;>intro ga sga
 refine ko ?_
 refine rY 22 ?_
 refine lH ?_
 exact zz
 refine rB ga ?_ (x:=lF la)
 refine lJ ?_
 refine rB ga ?_ (x:=kN)
 refine fI ?_
 refine cx 14 ?_ ?_<;>intro gb sgb
 refine rB gb ?_ (x:=lF la)
 refine ou ?_
 refine rB gb ?_ (x:=lF nH)
 refine Rc ?_
 refine rB ga ?_ (x:=cd gb)
 refine nq ?_
 refine cx 22 ?_ ?_<;>intro gc sgc
 refine xo ?_
 exact zz
 refine IL ?_
 refine Rw ?_
 refine cx 26 ?_ ?_<;>intro gd sgd
 refine rB gd ?_ (x:=lF la)
 refine xO ?_
 refine rB gd ?_ (x:=lF nH)
 refine xO ?_
 refine rB gd ?_ (x:=mp)
 refine Rs ?_
 exact zz
 refine zf gd ?_
 refine Rt ?_
 exact zz
 refine zf gb ?_
 refine rB ga ?_ (x:=bF gb)
 refine nq ?_
 refine rN 22 ?_
 refine rB rfl ?_ (x:=lF la)
 refine rB rfl ?_ (x:=lD [val _] aV)
 refine rB rfl ?_ (x:=kN)
 refine rB rfl ?_ (x:=sM)
 refine cx 26 ?_ ?_<;>intro gc sgc
 refine IL ?_
 refine rB gc ?_ (x:=lF nH)
 refine pk ?_
 refine rB gc ?_ (x:=mp)
 refine rB rfl ?_ (x:=cd gc)
 refine rA ?_ (x:=bF rfl)
 exact zz
 refine zf gc ?_
 refine rB rfl ?_ (x:=bF gc)
 refine rA ?_ (x:=bF rfl)
 exact zz
def avH{now:Int}(hn:now≤100000):aE prog 173 [(true,[val (vI v.Id),sl .v (v.Values.map ar),val (vI v.aDk),val (vI v.aDg)]),(false,[val (vI now)])] (aA [(false,[val (.bool (eK now v))])]):=by
 refine sF func173 fun h0 w0 Fz0=>?_
 refine sn 0 1 fun hl0_1=>?_
 refine Dg ?_
 refine DT ?_
 refine vr ?_
 refine rA ?_ (x:=lF qz)
 refine rL ?_
 refine rA ?_ (x:=cz (qs:=uZ) (cs:=iA) ak jh nB amr aj iY rfl aj)
 refine rA ?_ (x:=cL jK ly Kl (hs:=by exact (KJ (x:=⟨v.Id,v.Values⟩))))
 refine rM ?_
 refine cx 11 ?_ ?_<;>intro ga sga
 refine rB ga ?_ (x:=lF nH)
 refine lJ ?_
 refine fI ?_
 refine zg1 ?_
 refine rM ?_
 refine cx 17 ?_ ?_<;>intro gb sgb
 refine rB gb ?_ (x:=lF la)
 refine xn ?_
 refine ir ?_
 refine cx 21 ?_ ?_<;>intro gc sgc
 refine zt gc ?_
 refine rB gb ?_ (x:=cd gc)
 refine jP ?_
 exact Hv
 refine IL ?_
 refine rB gc ?_ (x:=lF nH)
 refine pk ?_
 refine rB gc ?_ (x:=MX ak ao (bq rfl) XG)
 refine zg4 ?_
 refine rB gb ?_ (x:=bF gc)
 refine jP ?_
 exact Hv
 refine hY ?_
 exact Hv
 refine ip ?_
 refine rN 17 ?_
 refine dz ?_
 exact Hv
def avI(hb:da s≤68719476736):aE prog 164 [(true,[sl .v (s.aC5.map (aG p1 p2)),val (vI s.Now)])] (aA [(false,[sl bc ((bQ s).map (ia .v))])]):=by
 refine sF func164 fun h0 w0 Fz0=>?_
 refine sn 0 0 fun hl0_0=>?_
 refine mr ?_
 refine rA ?_ (x:=pN (.inr rfl) ak (sZ (t:=116) (e:=4)))
 refine sT [1,2] [1] ?_
 refine xj ?_
 refine xx ?_
 refine sL [1,2] [1] (fun k:Nat=>k≤s.aC5.length) (fun k:Nat=>[(3,RV.slc bc ((eC s k).map (ia .v))),(4,RV.int (k:Int))]) (fun k:Nat=>[]) (fun k:Nat=>s.aC5.length - k) 0 ab ej ao ?_
 rintro k hk
 refine bI ?_
 refine DP ?_
 refine sc ?_ ?_<;>intro hba
 have hlt:k < s.aC5.length:=ab
 have hal:=qr s
 have hsp:=congrArg List.length (Ko hlt)
 simp only [bV] at hsp
 refine aY ?_
 refine sH [1,2,3,4] [1] ?_
 refine bL ?_
 refine tO ?_
 refine zga ?_
 refine rA ?_ (x:=ri (qs:=[sl .v _]) ak nK (fun _=>rfl) ay (by exact (az.cons (PV.to_map (fun _=>(aB (az.cons (PV.to_map (fun _=>(aB az.nil))) (aB (aB az.nil)))))) az.nil)) fp)
 refine rA ?_ (x:=ml ak fz iV rfl rfl ak oW Mu bm bm)
 refine dJ ?_
 refine DF ?_
 refine nx (k+1) ab (e:=(by exact aI (by exact bC (by rw [EE hlt,bo];rfl)) (aI aj tI)))
 have hend:k=s.aC5.length:=ab
 refine DB ?_
 refine jN ?_
 exact (aI (by refine bC ?_;rw [hend,SE]) tI)
def amv(hb:da s≤68719476736):aE prog 85 [(true,[sl .v (s.aC5.map (aG p1 p2)),val (vI s.Now)])] (aA [(false,[val (.bool (cy s))])]):=by
 refine sF func85 fun h0 w0 Fz0=>?_
 refine sn 0 0 fun hl0_0=>?_
 refine mr ?_
 refine jd ?_
 refine tw ?_
 refine JI ?_
 refine dq ?_
 refine cx 12 ?_ ?_<;>intro ga sga
 exact zgf
 refine rB ga ?_ (x:=lF ky)
 refine lJ ?_
 refine JA ?_
 refine sc ?_ ?_<;>intro hba
 exact Od
 have hpr:rW s=true:=by simp_all [rW]
 have hnow:0≤s.Now∧s.Now≤100000:=Xt
 refine tG ?_
 refine Ak ?_
 refine sL [1] [1] (fun k:Nat=>k≤s.aC5.length∧(s.aC5.take k).all nC=true) (fun k:Nat=>[(3,RV.int (k:Int))]) (fun k:Nat=>[]) (fun k:Nat=>s.aC5.length - k) 0 jp bu ao ?_
 rintro k ⟨hk,ha⟩
 refine bI ?_
 refine DP ?_
 refine sc ?_ ?_<;>intro hbb
 have hlt:k < s.aC5.length:=ab
 refine aY ?_
 refine sT [1,3] [1] ?_
 refine tO ?_
 refine vj ?_
 refine vP ?_
 refine ov ?_
 refine sc ?_ ?_<;>intro hbc
 have hbad:cy s=false:=ak6 hlt ab
 refine sS [1,3] [1] ?_
 exact qa
 have hyes:nC s.aC5[k]=true:=by simp [nC];omega
 refine Al ?_
 exact xf
 have hsm:s.aC5.all nC=true:=mz (by rw [show s.aC5.length=k by omega];exact ha)
 have hal:=qr s
 refine DL ?_
 refine zgm ?_
 refine iP ?_
 refine sS [1,3,4] [1] ?_
 refine cm ?_
 refine sP [1,3,4,5] [1] ?_
 refine sL [1,3,4] [1] (fun i:Nat=>i≤(bQ s).length∧pt s.Now (bQ s) i=true) (fun i:Nat=>[(5,RV.int (i:Int))]) (fun i:Nat=>[]) (fun i:Nat=>(bQ s).length - i) 0 fS bu ao ?_
 rintro i ⟨hi,hg⟩
 refine bI ?_
 refine zR ?_
 refine dC ?_
 refine sc ?_ ?_<;>intro hbc
 have hlt2:i < (bQ s).length:=ab
 refine fT ?_
 refine bg ?_
 refine sQ [1,3,4,5] [1] ?_
 refine qg ?_
 refine zgq ?_
 refine dA 0 ?_ (x:=lF ky)
 refine dA 16 ?_ (x:=lD [val _] aV)
 refine dA 63 ?_ (x:=cL He Cj atH (hs:=by exact (avH ab)))
 refine dA 127 ?_ (x:=nT)
 refine sc ?_ ?_<;>intro hbd
 have hvo:eK s.Now ((bQ s).getD i v0)=false:=cS
 have hbad:=Kn hlt2 (ak4 hvo)
 refine sS [1,3,4,5] [1] ?_
 exact qa
 have hvo:eK s.Now ((bQ s).getD i v0)=true:=cS
 refine aK ?_
 refine sS [1,3,4,5] [1] ?_
 refine cm ?_
 refine sP [1,3,4,5,6] [1] ?_
 refine sL [1,3,4,5] [1] (fun m:Nat=>m≤i∧ix (bQ s) i m=true) (fun m:Nat=>[(6,RV.int (m:Int))]) (fun m:Nat=>[]) (fun m:Nat=>i - m) 0 fS bu ao ?_
 rintro m ⟨hm,hfr⟩
 refine bI ?_
 refine DY ?_
 refine sc ?_ ?_<;>intro hbe
 have hlt3:m < i:=ab
 have hlt4:m < (bQ s).length:=ab
 refine fT ?_
 refine sQ [1,3,4,5,6] [1] ?_
 refine qg ?_
 refine zgq ?_
 refine gC ?_
 refine dA 48 ?_ (x:=aS (k:=m) ak fz ao eb (by exact eQ hlt4 (by rw [dM (d:=v0) hlt4])) aj)
 refine dA 112 ?_ (x:=lE pc lV)
 refine dA 255 ?_ (x:=cL YV YW atJ (hs:=by exact avG))
 refine dA 511 ?_ (x:=nT)
 refine sc ?_ ?_<;>intro hbf
 have hap:gE ((bQ s).getD i v0) ((bQ s).getD m v0)=false:=cS
 have hbad:=Kn hlt2 (ak5 hlt3 hap)
 refine sS [1,3,4,5,6] [1] ?_
 exact qa
 have hap:gE ((bQ s).getD i v0) ((bQ s).getD m v0)=true:=cS
 refine aK ?_
 refine sG [1,3,4,5,6] [1] ?_
 refine bO ?_
 exact zgt
 have hend2:m=i:=ab
 refine be ?_
 refine sH [1,3,4,5,6] [1] ?_
 refine bO ?_
 refine nx (i+1) (by refine ⟨ab,?_⟩;rw [ak3,hg,Bool.true_and];unfold pq;rw [hvo,Bool.true_and,←hend2];rw [hend2] at hfr ⊢;exact hfr)
 have hend1:i=(bQ s).length:=ab
 rw [hend1] at hg
 refine be ?_
 refine sT [1,3,4,5] [1] ?_
 refine cn ?_
 exact rb (by unfold cy;rw [hpr,hsm,hg];rfl)
def amw(hb:da s≤68719476736):aE prog 81 [(true,[sl .v (s.aC5.map (aG p1 p2)),val (vI s.Now)])] (aA [(false,[val (.bool (cy s))])]):=by
 refine sF func81 fun h0 w0 Fz0=>?_
 refine sn 0 0 fun hl0_0=>?_
 have hbu:=hb
 simp only [da,iR,bh] at hbu
 refine mr ?_
 refine jd ?_
 refine tw ?_
 refine zgu ?_
 refine cx 15 ?_ ?_<;>intro ga sga
 exact zgf
 refine rB ga ?_ (x:=lF ky)
 refine RA ?_
 refine jQ ?_
 refine sc ?_ ?_<;>intro hba
 exact Od
 have hpr:rW s=true:=by simp_all [rW]
 have hnow:0≤s.Now∧s.Now≤100000:=Xt
 have hal:=qr s
 refine DA ?_
 refine xj ?_
 refine mx ?_
 refine tw ?_
 refine dm ?_
 refine sP [1,2,3,23,24,25] [1] ?_
 refine sL [1,23,24] [1] (fun k:Nat=>k≤s.aC5.length∧((s.aC5.take k).all nC=true∧pt s.Now (bQ s) (eC s k).length=true)) (fun k:Nat=>[(3,RV.slc bc ((eC s k).map (ia .v))),(25,RV.int (k:Int))]) (fun k:Nat=>[]) (fun k:Nat=>s.aC5.length - k) 0 (by exact ⟨ab,⟨aP,rfl⟩⟩) ej ao ?_
 rintro k ⟨hk,ha⟩
 refine bP ?_
 refine sc ?_ ?_<;>intro hbb
 have hlt:k < s.aC5.length:=ab
 have hwm:=dK (f:=cX) hlt
 have hws:cX s.aC5[k]=s.aC5[k].length+(s.aC5[k].map df).sum:=rfl
 refine aY ?_
 refine sT [1,3,23,24,25] [1] ?_
 refine vj ?_
 refine IZ ?_
 refine sS [1,3,5,23,24,25] [1] ?_
 refine zR ?_
 refine ov ?_
 refine sc ?_ ?_<;>intro hbc
 have hbad:cy s=false:=ak6 hlt ab
 refine sS [1,3,5,23,24,25] [1] ?_
 exact qa
 have hyes:nC s.aC5[k]=true:=by simp [nC];omega
 refine aK ?_
 refine sS [1,3,5,23,24,25] [1] ?_
 refine Ax ?_
 refine sP [1,3,5,23,24,25,32,33,34] [1] ?_
 refine sL [1,5,23,24,25,32,33] [1] (fun j:Nat=>j≤s.aC5[k].length∧pt s.Now (bQ s) ((eC s k).length+j)=true) (fun j:Nat=>[(3,RV.slc bc ((eC s k++s.aC5[k].take j).map (ia .v))),(34,RV.int (j:Int))]) (fun j:Nat=>[]) (fun j:Nat=>s.aC5[k].length - j) 0 (by exact ⟨ab,ha.2⟩) (by exact aI (by exact bC aP) (aI aj tI)) ao ?_
 rintro j ⟨hj,hg⟩
 refine bP ?_
 refine sc ?_ ?_<;>intro hbd
 have hlt2:j < s.aC5[k].length:=ab
 have hwm2:=dK (f:=df) hlt2
 have hag:=ak7 hlt hlt2
 have hat:=ase hlt (Nat.le_of_lt hlt2)
 have hln:(eC s k++s.aC5[k].take j).length=(eC s k).length+j:=by rw [bV,cj];omega
 have hlm:(s.aC5[k].take j).length=j:=dh
 refine aY ?_
 refine sT [1,3,5,23,24,25,32,33,34] [1] ?_
 refine Ay ?_
 refine bg ?_
 refine sV [1,3,5,7,23,24,25,32,33,34] [1] [7] ?_
 refine PX ?_
 refine zh0 ?_
 refine dq ?_
 refine cx 42 ?_ ?_<;>intro gb sgb
 refine zt gb ?_
 refine hZ ?_
 refine rY 50 ?_
 refine kS ?_
 exact Oe
 refine rB gb ?_ (x:=lF nH)
 refine ou ?_
 refine rB gb ?_ (x:=lF ky)
 refine PY ?_
 refine Ao ?_
 refine cx 50 ?_ ?_<;>intro gc sgc
 refine vH ?_
 exact Oe
 refine IL ?_
 refine Rw ?_
 refine cx 54 ?_ ?_<;>intro gd sgd
 refine rB gd ?_ (x:=lF la)
 refine xO ?_
 refine rB gd ?_ (x:=lF nH)
 refine xO ?_
 refine rB gd ?_ (x:=MX ak ao (bq rfl) XG)
 refine rB gd ?_ (x:=lF ky)
 refine PZ ?_
 refine rB gd ?_ (x:=nT)
 refine Rs ?_
 refine sc ?_ ?_<;>intro hbe
 exact Oe
 have hvo:eK s.Now s.aC5[k][j]=true:=Mv
 refine cg ?_
 refine sS [1,3,5,7,23,24,25,32,33,34] [1,7] ?_
 refine Ax ?_
 refine zh6 ?_
 rintro m ⟨hm,hfr⟩
 refine bP ?_
 refine sc ?_ ?_<;>intro hbf
 have hlt3:m < (eC s k).length+j:=ab
 have hlt4:m < (eC s k++s.aC5[k].take j).length:=ab
 have hsg:(eC s k++s.aC5[k].take j)[m]=(bQ s).getD m v0:=by rw [dM (d:=v0) hlt4,hat,List.getD_eq_getElem?_getD,List.getElem?_take_of_lt hlt3,←List.getD_eq_getElem?_getD]
 have hvm:=SD hg hlt3
 have hma:=ak2 hvo hvm
 rw [←hag.2] at hma
 refine aY ?_
 refine zh7 ?_
 refine RD ?_
 refine Px ?_
 refine sV [1,3,5,7,9,23,24,25,32,33,34,66,67,68] [1,7] [9] ?_
 refine vr ?_
 refine vr ?_
 refine iC ?_
 refine cx 77 ?_ ?_<;>intro ge sge
 refine RE ?_
 refine zhb ?_
 refine rA ?_ (x:=cd ge)
 refine sc ?_ ?_<;>intro hbg
 exact zhc
 exact Of
 exact zhe
 exact zhf
 refine zf gd ?_
 refine Rt ?_
 refine gB ?_
 have hvo:eK s.Now s.aC5[k][j]=true:=Mv
 refine cg ?_
 refine sS [1,3,5,7,23,24,25,32,33,34] [1,7] ?_
 refine Ax ?_
 refine zh6 ?_
 rintro m ⟨hm,hfr⟩
 refine bP ?_
 refine sc ?_ ?_<;>intro hbe
 have hlt3:m < (eC s k).length+j:=ab
 have hlt4:m < (eC s k++s.aC5[k].take j).length:=ab
 have hsg:(eC s k++s.aC5[k].take j)[m]=(bQ s).getD m v0:=by rw [dM (d:=v0) hlt4,hat,List.getD_eq_getElem?_getD,List.getElem?_take_of_lt hlt3,←List.getD_eq_getElem?_getD]
 have hvm:=SD hg hlt3
 have hma:=ak2 hvo hvm
 rw [←hag.2] at hma
 refine aY ?_
 refine zh7 ?_
 refine RD ?_
 refine Px ?_
 refine sV [1,3,5,7,9,23,24,25,32,33,34,66,67,68] [1,7] [9] ?_
 refine vr ?_
 refine vr ?_
 refine iC ?_
 refine cx 77 ?_ ?_<;>intro ge sge
 refine RE ?_
 refine zhb ?_
 refine rA ?_ (x:=cd ge)
 refine sc ?_ ?_<;>intro hbf
 exact zhc
 exact Of
 exact zhe
 exact zhf
 have hend2:j=s.aC5[k].length:=ab
 refine be ?_
 refine sH [1,3,5,23,24,25,32,33,34] [1] ?_
 refine cc ?_
 refine nx (k+1) (by exact ⟨ab,⟨Ke ha.1 hlt hyes,by rw [EE hlt,bV,←hend2];exact hg⟩⟩) (e:=(by exact aI (by exact bC (by rw [hend2,bG,EE hlt])) (aI aj tI)))
 have hend:k=s.aC5.length:=ab
 have hsm:s.aC5.all nC=true:=mz (by rw [←hend];exact ha.1)
 have hgd:=ha.2
 rw [hend,SE] at hgd
 refine be ?_
 refine sT [1,3,23,24,25] [1] ?_
 refine cn ?_
 exact rb (by unfold cy;rw [hpr,hsm,hgd];rfl)
def amx{l:List Int}:aE Tryz.prog 228 [(false,[sl .v (l.map ar)])] (aA [(false,[val (.bool (fa l))])]):=by
 refine sF Tryz.func228 fun h0 w0 Fz0=>?_
 refine sj 0 fun hl0=>?_
 refine tC ?_
 refine jv ?_
 refine Jn ?_
 refine sL [0,5,6] [] (fun k:Nat=>k≤l.length∧Eu l k=true) (fun k:Nat=>[(7,RV.int (k:Int))]) (fun k:Nat=>[]) (fun k:Nat=>l.length - k) 0 fS bu ao ?_
 rintro k ⟨hk,ha⟩
 refine bP ?_
 refine sc ?_ ?_<;>intro hba
 have hlt:k < l.length:=ab
 have hgk:l.getD k 0=l[k]:=by simp [hlt]
 have hgp:0 < k→l.getD (k - 1) 0=l[k - 1]:=fun h=>by rw [List.getD_eq_getElem?_getD,List.getElem?_eq_getElem ab];rfl
 refine aY ?_
 refine sS [0,5,6,7] [] ?_
 refine rM ?_
 refine tu ?_
 refine oq ?_
 refine sS [0,3,4,5,6,7] [] ?_
 refine rM ?_
 refine kQ ?_
 refine cx 14 ?_ ?_<;>intro ga sga
 refine ko ?_
 refine rY 18 ?_
 refine lH ?_
 exact zhh
 refine fI ?_
 refine rB ga ?_ (x:=jc)
 refine nq ?_
 refine cx 18 ?_ ?_<;>intro gb sgb
 refine tx ?_
 exact zhh
 refine Rx ?_
 refine ir ?_
 refine cx 21 ?_ ?_<;>intro gc sgc
 refine rB gc ?_ (x:=vM false [sl .v _])
 refine ow ?_
 refine rB gc ?_ (x:=hP)
 refine rB gc ?_ (x:=aS (k:=k - 1) ak bY ao ab bD aj)
 refine rB gc ?_ (x:=lE [val _] aV)
 refine ow ?_
 refine rB gc ?_ (x:=jc)
 refine rB gb ?_ (x:=cd gc)
 refine ql ?_
 refine sc ?_ ?_<;>intro hbb
 refine sS [0,3,4,5,6,7] [] ?_
 exact Hx
 exact zhn
 refine zf gc ?_
 refine rB gb ?_ (x:=bF gc)
 refine ql ?_
 refine gB ?_
 exact zhn
 have hend:k=l.length:=ab
 refine Jo ?_
 exact zho
def TC{l:List Int}:aE Tryz.prog 232 [(false,[sl .v (l.map ar)])] (aA [(false,[val (.bool (fa l))])]):=by
 refine sF Tryz.func232 fun h0 w0 Fz0=>?_
 refine sj 0 fun hl0=>?_
 refine Aw ?_
 refine sL [0] [] (fun k:Nat=>k≤l.length∧Eu l k=true) (fun k:Nat=>[(3,RV.int (k:Int))]) (fun k:Nat=>[]) (fun k:Nat=>l.length - k) 0 fS bu ao ?_
 rintro k ⟨hk,ha⟩
 refine pj ?_
 refine sc ?_ ?_<;>intro hba
 have hlt:k < l.length:=ab
 have hgk:l.getD k 0=l[k]:=by simp [hlt]
 have hgp:0 < k→l.getD (k - 1) 0=l[k - 1]:=fun h=>by rw [List.getD_eq_getElem?_getD,List.getElem?_eq_getElem ab];rfl
 refine fT ?_
 refine sP [0,3] [] ?_
 refine qg ?_
 refine Dd ?_
 refine zhq ?_
 refine dA 63 ?_ (x:=sM)
 refine dx 16 ?_ ?_<;>intro ga sga
 refine dT 127 ga ?_
 refine dT 255 ga ?_
 refine dT 511 ga ?_
 refine Au ?_
 refine Eb ?_
 refine Au ?_
 refine dU 33791 ?_
 refine dU 115711 ?_
 refine dU 246783 ?_
 refine dU 524287 ?_
 refine dT 1048575 ga ?_
 refine dA 2097151 ?_ (x:=cd ga)
 refine fH ?_
 refine sS [0,3] [] ?_
 exact Hx
 refine Ro ?_
 refine vQ ?_
 refine dx 19 ?_ ?_<;>intro gb sgb
 refine zU ?_
 refine dB 4095 gb ?_ (x:=aS ak bY ao aj bD aj)
 refine dB 8191 gb ?_ (x:=lE [val _] aV)
 refine zU ?_
 refine dB 33791 gb ?_ (x:=hP)
 refine dB 115711 gb ?_ (x:=aS (k:=k - 1) ak bY ao ab bD aj)
 refine dB 246783 gb ?_ (x:=lE [val _] aV)
 refine dB 524287 gb ?_ (x:=mp)
 refine dB 1048575 ga ?_ (x:=cd gb)
 refine dA 2097151 ?_ (x:=bF ga)
 refine sc ?_ ?_<;>intro hbb
 refine sS [0,3] [] ?_
 exact Hx
 exact zhv
 refine Am ?_
 refine dF 4095 gb ?_
 refine dF 8191 gb ?_
 refine Am ?_
 refine dF 33791 gb ?_
 refine dF 115711 gb ?_
 refine dF 246783 gb ?_
 refine dF 524287 gb ?_
 refine dB 1048575 ga ?_ (x:=bF gb)
 refine dA 2097151 ?_ (x:=bF ga)
 refine gB ?_
 exact zhv
 have hend:k=l.length:=ab
 refine xA ?_
 exact zho
variable{a b:List Int}
def avJ{q:Int→Bool}:aE prog 343 [(false,[PV.clo prog asI (rsB q)])] (aA [(false,[sl ai ((nA q 24).map ar)])]):=by
 refine Nf (rs:=[(false,[sl ai ((nA q 24).map ar)])]) func343 rfl (nl rfl) (jI (aW.cons (bor_clo _ _) aW.nil) kJ) ?_
 intro h0 w0 Fz0
 refine pi ?_
 refine lI ?_
 refine jO ?_
 refine tF ?_
 refine sL [0,2] [] (fun k:Nat=>k≤24) (fun k:Nat=>[(3,RV.slc ai ((nA q k).map ar)),(4,RV.int (k:Int))]) (fun k:Nat=>[]) (fun k:Nat=>24 - k) 0 ab ej ao ?_
 rintro k hk
 refine xB ?_
 refine sc ?_ ?_<;>intro hba
 have hlt:k < 24:=ab
 have hpl:=Ss q k
 refine aY ?_
 refine qm ?_
 refine rA ?_ (x:=mh (r':=RV.sv false [PV.clo _ _ _]) (.inl rfl) ak (by exact Cp.sv (aB az.nil) (aW.cons (bor_clo _ _) aW.nil)))
 refine rM ?_
 refine rA ?_ (x:=aql (k:Int) (qs:=aM) (r:=RV.sv false [val _]) ak cN (by exact (aI (aI rfl (aB az.nil)) tI)) aj)
 refine sc ?_ ?_<;>intro hbb
 have hc:=hbb
 refine sG [0,2,3,4] [] ?_
 refine Az ?_
 exact zi1
 have hc:=hbb
 refine aK ?_
 exact zi1
 have hend:k=24:=ab
 refine be ?_
 refine qm ?_
 refine jN ?_
 exact (aI (by refine bC ?_;rw [hend]) tI)
def avK{x:Int}:aE prog 344 [(false,[val (vI x)]),(false,[PV.ep [sl .v (a.map ar)]]),(false,[PV.ep [sl .v (b.map ar)]])] (aA [(false,[val (.bool (ce a x&&ce b x))])]):=by
 refine Nf (rs:=[(false,[val (.bool (ce a x&&ce b x))])]) func344 rfl (nl rfl) (jI (aW.cons (bor_val _) aW.nil) (jI (aW.cons (bor_ep _) aW.nil) (jI (aW.cons (bor_ep _) aW.nil) kJ))) ?_
 intro h0 w0 Fz0
 refine qh ?_
 refine sS [0,1,2,4] [] ?_
 refine rA ?_ (x:=YD (qs:=[sl .v _]) ak bZ (fun _=>rfl) ay gS fp)
 refine rM ?_
 refine rA ?_ (x:=cL gJ gK akZ (hs:=by exact amo))
 refine rM ?_
 refine cx 8 ?_ ?_<;>intro ga sga
 refine rB ga ?_ (x:=YD (qs:=[sl .v _]) ak bZ (fun _=>rfl) ay gS fp)
 refine fI ?_
 refine rB ga ?_ (x:=cL gJ gK akZ (hs:=by exact amo))
 refine iq ?_
 refine dI ?_
 exact rb (by simp [*])
 refine lG ?_
 refine dI ?_
 exact rb (by simp [*])
def avL:aE prog 341 [(false,[sl .v (a.map ar)]),(false,[sl .v (b.map ar)])] (aA [(false,[sl ai ((qn a b).map ar)])]):=by
 refine sF func341 fun h0 w0 Fz0=>?_
 refine sj 0 fun hl0=>?_
 refine sj 1 fun hl1=>?_
 refine sR ?_
 refine rX ?_ (x:=(kH (ag:=false) (cs:=[sl _ _]) ak ao))
 refine rX ?_ (x:=(kH (ag:=false) (cs:=[sl _ _]) ak ao))
 refine IG ?_
 refine sT [2,3,4] [2,3] ?_
 refine zi3 ?_
 refine dq ?_
 refine cx 8 ?_ ?_<;>intro ga sga
 refine gY ?_
 exact zi4
 refine rB ga ?_ (x:=lD [sl .v _] bZ)
 refine rB ga ?_ (x:=cL cf cC akY (hs:=by exact amx))
 refine kP ?_
 refine sc ?_ ?_<;>intro hba
 exact zi4
 refine cg ?_
 refine sP [2,3,4] [2,3] ?_
 refine YE (s:=2) (b:=2) aj aj ?_
 refine sP [2,3,4] [3] ?_
 refine YE (s:=3) (b:=3) aj aj ?_
 refine sG [2,3,4] [] ?_
 refine rA ?_ (x:=aqm (asf:=asI) (rf:=(rsB (fun x:Int=>ce a x&&ce b x))) (qs:=[(false,[PV.ep [sl _ _]]),(false,[PV.ep [sl _ _]])]) (caps:=[(false,[PV.ep [sl _ _]]),(false,[PV.ep [sl _ _]])]) ak ar8 iY (by exact (aI (aI rfl (aB az.nil)) (aI (aI rfl (aB az.nil)) tI))) (fun x=>by exact avK))
 refine rA ?_ (x:=cL [(false,[PV.clo _ _ _])] [(false,[PV.clo _ _ _])] ar7 (hs:=by exact avJ))
 refine dJ ?_
 exact zi5
def avM:aE prog 330 [(false,[sl .v (a.map ar)]),(false,[sl .v (b.map ar)])] (aA [(false,[sl ai ((qn a b).map ar)])]):=by
 refine sF func330 fun h0 w0 Fz0=>?_
 refine sj 0 fun hl0=>?_
 refine sj 1 fun hl1=>?_
 refine pi ?_
 refine mw ?_
 refine jO ?_
 refine DI ?_
 refine sP [0,1,4,5,6] [] ?_
 refine sL [0,1,4] [] (fun k:Nat=>k≤a.length∧(0 < k→(fa a&&fa b)=true)) (fun k:Nat=>[(5,RV.slc ai (((a.take k).filter (fun x=>ce b x)).map ar)),(6,RV.int (k:Int))]) (fun k:Nat=>[]) (fun k:Nat=>a.length - k) 0 uL kd ao ?_
 rintro k ⟨hk,ha⟩
 refine bI ?_
 refine jv ?_
 refine kQ ?_
 refine cx 12 ?_ ?_<;>intro ga sga
 refine vR ?_
 refine rB ga ?_ (x:=cL cf cC SB (hs:=by exact TC))
 refine rG ?_
 refine cx 16 ?_ ?_<;>intro gb sgb
 refine pm ?_
 refine rB gb ?_ (x:=cL cf cC SB (hs:=by exact TC))
 refine jP ?_
 refine sc ?_ ?_<;>intro hba
 have hlt:k < a.length:=by simp at *;omega
 have hok2:(fa a&&fa b)=true:=cS
 have h24:=arM ((Bool.and_eq_true_iff).1 hok2).1
 have hln:((a.take k).filter (fun x=>ce b x)).length≤k:=Nat.le_trans (jr _ _) dh
 refine DD ?_
 refine cv ?_
 refine xF ?_
 refine rA ?_ (x:=cL gJ gK Kj (hs:=Ge))
 refine sc ?_ ?_<;>intro hbb
 have hc:=hbb
 refine sG [0,1,4,5,6] [] ?_
 refine bL ?_
 refine xF ?_
 refine oo ?_
 exact zic
 have hc:=hbb
 refine aK ?_
 exact zic
 exact Og
 refine tL ?_
 exact Og
 refine ip ?_
 refine rN 16 ?_
 refine dz ?_
 refine gB ?_
 exact Og
def amy{x:List Int}{y:List Int}:aE prog 125 [(false,[sl .v (x.map ar)]),(false,[sl .v (y.map ar)])] (aA [(false,[val (.bool (it x y))])]):=by
 refine sF func125 fun h0 w0 Fz0=>?_
 refine sj 0 fun hl0=>?_
 refine sj 1 fun hl1=>?_
 refine tE ?_
 refine jv ?_
 refine jv ?_
 refine nu ?_
 refine sc ?_ ?_<;>intro hba
 exact Cv
 have hl:x.length=y.length:=ab
 refine DQ ?_
 refine cm ?_
 refine zih ?_
 rintro k ⟨hk,ha⟩
 refine pj ?_
 refine sc ?_ ?_<;>intro hbb
 have hlt:k < x.length:=ab
 have hlt2:k < y.length:=ab
 refine JG ?_
 refine qg ?_
 refine Dd ?_
 refine gC ?_
 refine Qm ?_
 refine dA 255 ?_ (x:=kN)
 refine sc ?_ ?_<;>intro hbc
 exact Hy
 refine DG ?_
 refine bO ?_
 exact zil
 refine DH ?_
 exact Hz
def avN{x:List Int}{y:List Int}:aE prog 191 [(false,[sl .v (x.map ar)]),(false,[sl .v (y.map ar)])] (aA [(false,[val (.bool (it x y))])]):=by
 refine sF func191 fun h0 w0 Fz0=>?_
 refine sj 0 fun hl0=>?_
 refine sj 1 fun hl1=>?_
 refine tE ?_
 refine jv ?_
 refine jv ?_
 refine nu ?_
 refine sc ?_ ?_<;>intro hba
 exact Cv
 have hl:x.length=y.length:=ab
 refine DQ ?_
 refine Av ?_
 refine zin ?_
 rintro k ⟨hk,ha⟩
 refine bP ?_
 refine sc ?_ ?_<;>intro hbb
 have hlt:k < x.length:=ab
 have hlt2:k < y.length:=ab
 refine aY ?_
 refine sS [0,1,12,13] [] ?_
 refine rM ?_
 refine dr ?_
 refine sP [0,1,5,12,13] [] ?_
 refine qg ?_
 refine Dd ?_
 refine gC ?_
 refine Qm ?_
 refine dA 255 ?_ (x:=kN)
 refine sc ?_ ?_<;>intro hbc
 refine sS [0,1,5,12,13] [] ?_
 exact Cw
 refine aK ?_
 refine sG [0,1,5,12,13] [] ?_
 refine cc ?_
 exact zil
 exact zip
def avO{x:Row}{y:Row}:aE prog 192 [(true,[val (vI x.Id),sl .v (x.Values.map ar)]),(true,[val (vI y.Id),sl .v (y.Values.map ar)])] (aA [(false,[val (.bool (it x y))])]):=by
 refine sF func192 fun h0 w0 Fz0=>?_
 refine sn 0 1 fun hl0_1=>?_
 refine sn 1 1 fun hl1_1=>?_
 refine xm ?_
 refine JK ?_
 refine Ai ?_
 refine rA ?_ (x:=lF kW)
 refine eJ ?_
 refine rA ?_ (x:=lF kW)
 refine eJ ?_
 refine iC ?_
 refine cx 10 ?_ ?_<;>intro ga sga
 refine Qn ?_
 refine Qn ?_
 refine rB ga ?_ (x:=cL pS pT Ki (hs:=Gf))
 refine iq ?_
 exact zir
 refine lG ?_
 exact zir
def ayq{x:List fw}{y:List fw}:aE prog 190 [(false,[sl .v (x.map bM)]),(false,[sl .v (y.map bM)])] (aA [(false,[val (.bool (it x y))])]):=by
 refine sF func190 fun h0 w0 Fz0=>?_
 refine sj 0 fun hl0=>?_
 refine sj 1 fun hl1=>?_
 refine tE ?_
 refine Re ?_
 refine Re ?_
 refine nu ?_
 refine sc ?_ ?_<;>intro hba
 exact Cv
 have hl:x.length=y.length:=ab
 refine DQ ?_
 refine Re ?_
 refine dm ?_
 refine zin ?_
 rintro k ⟨hk,ha⟩
 refine bP ?_
 refine sc ?_ ?_<;>intro hbb
 have hlt:k < x.length:=ab
 have hlt2:k < y.length:=ab
 refine aY ?_
 refine sS [0,1,12,13] [] ?_
 refine rM ?_
 refine dr ?_
 refine sP [0,1,5,12,13] [] ?_
 refine qg ?_
 refine dA 3 ?_ (x:=aS ak ic ao aj bD aj)
 refine dA 7 ?_ (x:=lE tn AY)
 refine gC ?_
 refine dA 48 ?_ (x:=aS ak ic ao aj bD aj)
 refine dA 112 ?_ (x:=lE tn AY)
 refine dA 255 ?_ (x:=aqn [vI _,vI _,vI _] [vI _,vI _,vI _] ak (asb _ _ _ _ _ _ _ _))
 refine sc ?_ ?_<;>intro hbc
 refine sS [0,1,5,12,13] [] ?_
 exact Cw
 refine aK ?_
 refine sG [0,1,5,12,13] [] ?_
 refine cc ?_
 refine nx (k+1) (by exact ⟨ab,Sp ha hlt hlt2 (by simp_all [arR])⟩)
 exact zip
def ayr{x:aC7}{y:aC7}:aE prog 111 [(true,[val (vI x.Id),val (vI x.aDb),sl .v (x.aC8.map bM),sl .v (x.Out.map ar)]),(true,[val (vI y.Id),val (vI y.aDb),sl .v (y.aC8.map bM),sl .v (y.Out.map ar)])] (aA [(false,[val (.bool (it x y))])]):=by
 refine sF func111 fun h0 w0 Fz0=>?_
 refine sn 0 2 fun hl0_2=>?_
 refine sn 0 3 fun hl0_3=>?_
 refine sn 1 2 fun hl1_2=>?_
 refine sn 1 3 fun hl1_3=>?_
 refine om ?_
 refine RW ?_
 refine Ai ?_
 refine vt ?_
 refine vt ?_
 refine iC ?_
 refine cx 10 ?_ ?_<;>intro ga sga
 refine rB ga ?_ (x:=lF rU)
 refine lJ ?_
 refine rB ga ?_ (x:=lF rU)
 refine zT ?_
 refine rM ?_
 refine cx 17 ?_ ?_<;>intro gb sgb
 refine Do ?_
 refine Do ?_
 refine rB gb ?_ (x:=cL pS pT ar3 (hs:=by exact ayq))
 refine hZ ?_
 refine cx 24 ?_ ?_<;>intro gc sgc
 refine IJ ?_
 refine IJ ?_
 refine rB gc ?_ (x:=cL pS pT Ki (hs:=Gf))
 refine tS ?_
 exact OC
 refine kl ?_
 exact OC
 refine hY ?_
 exact zy7
 refine ip ?_
 refine rN 17 ?_
 refine dz ?_
 exact zy7
def ays{x:aC9}{y:aC9}:aE prog 112 [(true,[val (vI x.Kind),val (vI x.Row.Id),sl .v (x.Row.Values.map ar),val (vI x.Field),val (vI x.Value)]),(true,[val (vI y.Kind),val (vI y.Row.Id),sl .v (y.Row.Values.map ar),val (vI y.Field),val (vI y.Value)])] (aA [(false,[val (.bool (it x y))])]):=by
 refine sF func112 fun h0 w0 Fz0=>?_
 refine sn 0 2 fun hl0_2=>?_
 refine sn 1 2 fun hl1_2=>?_
 refine zO ?_
 refine zy8 ?_
 refine Ai ?_
 refine vl ?_
 refine vl ?_
 refine iC ?_
 refine cx 10 ?_ ?_<;>intro ga sga
 refine AE ?_
 refine Em ?_
 refine AE ?_
 refine Em ?_
 refine rB ga ?_ (x:=cL [(true,iA),(true,iA)] [(true,mo),(true,mo)] ar4 (hs:=by exact avO))
 refine rG ?_
 refine cx 17 ?_ ?_<;>intro gb sgb
 refine QT ?_
 refine Jh ?_
 refine hZ ?_
 refine cx 24 ?_ ?_<;>intro gc sgc
 refine rB gc ?_ (x:=lF qp)
 refine pk ?_
 refine rB gc ?_ (x:=lF qp)
 refine Dx ?_
 exact OD
 refine kl ?_
 exact OD
 refine hY ?_
 exact zyc
 refine ip ?_
 refine rN 17 ?_
 refine dz ?_
 exact zyc
end Go.Proofs.YtmekkgdboplbjaaGreatDoor
