/- What functions of the program compute. No condition. -/
import Derived.Test.YtmekkgdboplbjaaGreatDoorDG0
set_option linter.all false
namespace Go.Proofs.YtmekkgdboplbjaaGreatDoor
open Go Go.RowKit M PV Tryz
set_option maxRecDepth 10000
attribute [local irreducible] PV.Lcl PV.LclR RV.Lcl
def Xc{x:dt}:aS prog 175 [(true,[val (vI x.Field),val (vI x.Low),val (vI x.High)])] (aJ [(false,[val (.bool (iD x))])]):=by
 refine sF func175 fun h0 w0 Fz0=>?_
 refine sR ?_
 refine LG ?_
 refine Cs ?_
 refine rA ?_ (x:=cL [(false,[val _])] [(false,[val _])] Dc (hs:=by exact Ed))
 refine rM ?_
 refine cx 6 (fun ga sga=>?_) (fun ga sga=>?_)
 refine Cg ?_
 refine rB ga ?_ (x:=ll)
 refine sr ?_
 refine cx 11 (fun gb sgb=>?_) (fun gb sgb=>?_)
 refine rB gb ?_ (x:=lF vi)
 refine nG ?_
 refine rB gb ?_ (x:=lF oV)
 refine nG ?_
 refine rB gb ?_ (x:=nq)
 refine kD ?_
 refine cx 18 (fun gc sgc=>?_) (fun gc sgc=>?_)
 refine rB gc ?_ (x:=lF oV)
 refine sJ ?_
 refine rB gc ?_ (x:=nq)
 refine my ?_
 exact qa
 refine kE ?_
 exact qa
 refine lx ?_
 refine av.cases (s:=18) rfl (fun g4=>nomatch g4) (fun g4=>?_)
 refine zf g4 ?_
 refine rA ?_ (x:=aK g4)
 exact qa
 refine qu ?_
 refine av.cases (s:=11) rfl (fun g5=>nomatch g5) (fun g5=>?_)
 refine xZ ?_
 refine rM ?_
 refine av.cases (s:=18) rfl (fun g6=>nomatch g6) (fun g6=>?_)
 refine zf g6 ?_
 refine rA ?_ (x:=aK g6)
 exact qa
def Xd{x:dt}:aS prog 178 [(true,[val (vI x.Field),val (vI x.Low),val (vI x.High)])] (aJ [(false,[val (.bool (iD x))])]):=by
 refine sF func178 fun h0 w0 Fz0=>?_
 refine sR ?_
 refine LG ?_
 refine Cs ?_
 refine BF ?_
 refine cx 6 (fun ga sga=>?_) (fun ga sga=>?_)
 refine Cg ?_
 refine rB ga ?_ (x:=lF oV)
 refine KT ?_
 refine sr ?_
 refine cx 13 (fun gb sgb=>?_) (fun gb sgb=>?_)
 refine rB gb ?_ (x:=lF oV)
 refine nG ?_
 refine rB gb ?_ (x:=nq)
 refine rA ?_ (x:=bF gb)
 exact qa
 refine uN ?_
 exact qa
 refine qu ?_
 refine av.cases (s:=13) rfl (fun g3=>nomatch g3) (fun g3=>?_)
 refine zf g3 ?_
 refine rA ?_ (x:=aK g3)
 exact qa
def Xe{x:List Int}:aS prog 179 [(false,[sl .v (x.map ax)])] (aJ [(false,[val (.bool (kc x))])]):=by
 refine sF func179 fun h0 w0 Fz0=>?_
 refine sj 0 fun hl0=>?_
 refine oI ?_
 refine iY ?_
 refine sP [0,2,3] [] ?_
 refine sL [0] [] (fun k:Nat=>k≤x.length∧(x.take k).all hI=true) (fun k:Nat=>[(3,RV.int (k:Int))]) (fun k:Nat=>[]) (fun k:Nat=>x.length - k) 0 kt cb au ?_
 rintro k ⟨hk,ha⟩
 refine jU ?_
 refine mu ?_
 refine fx ?_
 refine sc ?_ ?_<;>intro hba
 have hlt:k < x.length:=ab
 refine bA ?_
 refine sS [0,3] [] ?_
 refine iz ?_
 refine qd ?_
 refine La ?_
 refine sc ?_ ?_<;>intro hbb
 have hno:hI x[k]=false:=by simpa [hI] using hbb
 refine sS [0,3] [] ?_
 refine bG ?_
 exact rb (by simp [kc,mC (P:=hI) hlt hno])
 have hyes:hI x[k]=true:=by simpa [hI] using hbb
 refine bd ?_
 refine sG [0,3] [] ?_
 exact AK
 have hall:x.all hI=true:=kH zX
 refine bv ?_
 refine sS [0,3] [] ?_
 refine mu ?_
 refine Cz ?_
 refine cW ?_
 exact rb (by simp [kc,hall, *])
def Ef{x:ac9}:aS prog 90 [(true,[val (vI x.Id),val (vI x.ade),sl .v (x.ada.map bU),sl .v (x.Out.map ax)])] (aJ [(false,[val (.bool (aQ x))])]):=by
 refine sF func90 fun h0 w0 Fz0=>?_
 refine sn 0 2 fun hl0_2=>?_
 refine sn 0 3 fun hl0_3=>?_
 refine nB ?_
 refine oG ?_
 refine iY ?_
 refine sP [1,2,3] [1] ?_
 refine sL [1] [1] (fun k:Nat=>k≤x.ada.length∧lG ⟨0,0,0⟩ iD mH x.ada k=true) (fun k:Nat=>[(3,RV.int (k:Int))]) (fun k:Nat=>[]) (fun k:Nat=>x.ada.length - k) 0 jM cb au ?_
 rintro k ⟨hk,ha⟩
 refine jU ?_
 refine sf ?_
 refine fx ?_
 refine sc ?_ ?_<;>intro hba
 have hlt:k < x.ada.length:=ab
 have hgk:x.ada.getD k ⟨0,0,0⟩=x.ada[k]:=iC hlt
 have hgp:0 < k→x.ada.getD (k - 1) ⟨0,0,0⟩=x.ada[k - 1]:=fun h=>iC ab
 refine sz ?_
 refine sQ [1,3] [1] ?_
 refine dr ?_
 refine dA 0 ?_ (x:=lF kK)
 refine dA 1 ?_ (x:=lD [sl .v _] lJ)
 refine jy ?_
 refine dA 7 ?_ (x:=bT ae gK au aj dW aj)
 refine dA 15 ?_ (x:=lE gH ti)
 refine dA 31 ?_ (x:=cL [(true,gH)] [(true,gH)] TO (hs:=by exact Xd))
 refine dA 63 ?_ (x:=nT)
 refine dA 127 ?_ (x:=sM)
 refine dx 18 (fun ga sga=>?_) (fun ga sga=>?_)
 refine dT 255 ga ?_
 refine dT 511 ga ?_
 refine dT 1023 ga ?_
 refine dU 2047 ?_
 refine dU 4095 ?_
 refine dU 2047 ?_
 refine dU 16383 ?_
 refine dU 32767 ?_
 refine dU 65535 ?_
 refine dU 2047 ?_
 refine dU 133119 ?_
 refine dU 2047 ?_
 refine dU 526335 ?_
 refine dU 1968127 ?_
 refine dU 4065279 ?_
 refine dU 8259583 ?_
 refine dU 16777215 ?_
 refine dT 33554431 ga ?_
 refine dA 67108863 ?_ (x:=bF ga)
 refine cd ?_
 exact Ih
 refine dB 255 ga ?_ (x:=sM)
 refine dB 511 ga ?_ (x:=fH)
 refine dB 1023 ga ?_ (x:=sM)
 refine dx 21 (fun gb sgb=>?_) (fun gb sgb=>?_)
 refine dB 2047 gb ?_ (x:=lF kK)
 refine dB 4095 gb ?_ (x:=lD [sl .v _] lJ)
 refine dB 2047 gb ?_ (x:=sM)
 refine dB 16383 gb ?_ (x:=bT ae gK au aj dW aj)
 refine dB 32767 gb ?_ (x:=lg ae oU aH)
 refine dB 65535 gb ?_ (x:=lE [val _] bB)
 refine dB 2047 gb ?_ (x:=lF kK)
 refine dB 133119 gb ?_ (x:=lD [sl .v _] lJ)
 refine dB 2047 gb ?_ (x:=sM)
 refine dB 526335 gb ?_ (x:=nr)
 refine dB 1968127 gb ?_ (x:=bT (k:=k - 1) ae gK au ab dW aj)
 refine dB 4065279 gb ?_ (x:=lg ae oU aH)
 refine dB 8259583 gb ?_ (x:=lE [val _] bB)
 refine dB 16777215 gb ?_ (x:=nq)
 refine dB 33554431 ga ?_ (x:=bF gb)
 refine dA 67108863 ?_ (x:=aK ga)
 refine sc ?_ ?_<;>intro hbb
 exact Ih
 exact Ij
 refine dF 2047 gb ?_
 refine dF 4095 gb ?_
 refine dF 2047 gb ?_
 refine dF 16383 gb ?_
 refine dF 32767 gb ?_
 refine dF 65535 gb ?_
 refine dF 2047 gb ?_
 refine dF 133119 gb ?_
 refine dF 2047 gb ?_
 refine dF 526335 gb ?_
 refine dF 1968127 gb ?_
 refine dF 4065279 gb ?_
 refine dF 8259583 gb ?_
 refine dF 16777215 gb ?_
 refine dB 33554431 ga ?_ (x:=aK gb)
 refine dA 67108863 ?_ (x:=aK ga)
 refine fW ?_
 exact Ij
 have hend:k=x.ada.length:=ab
 have hall:eS ⟨0,0,0⟩ iD mH x.ada=true:=yr ha hend
 refine bv ?_
 refine sT [1,3] [1] ?_
 refine sb ?_
 refine BF ?_
 refine cx 41 (fun ga sga=>?_) (fun ga sga=>?_)
 refine rB ga ?_ (x:=lF vg)
 refine KT ?_
 refine sr ?_
 refine cx 46 (fun gb sgb=>?_) (fun gb sgb=>?_)
 refine xK ?_
 refine rB gb ?_ (x:=lN gK)
 refine rB gb ?_ (x:=nq)
 refine kD ?_
 refine cx 52 (fun gc sgc=>?_) (fun gc sgc=>?_)
 refine Cd ?_
 refine rB gc ?_ (x:=cL [(false,[sl _ _])] [(false,[sl .v _])] TP (hs:=by exact Xe))
 refine my ?_
 exact xj
 refine kE ?_
 exact xj
 refine lx ?_
 refine av.cases (s:=52) rfl (fun g10=>nomatch g10) (fun g10=>?_)
 refine zf g10 ?_
 refine rA ?_ (x:=aK g10)
 exact xj
 refine qu ?_
 refine av.cases (s:=46) rfl (fun g11=>nomatch g11) (fun g11=>?_)
 refine zf g11 ?_
 refine rA ?_ (x:=aK g11)
 refine rM ?_
 refine av.cases (s:=52) rfl (fun g12=>nomatch g12) (fun g12=>?_)
 refine zf g12 ?_
 refine rA ?_ (x:=aK g12)
 exact xj
def Eg{x:ac9}:aS prog 86 [(true,[val (vI x.Id),val (vI x.ade),sl .v (x.ada.map bU),sl .v (x.Out.map ax)])] (aJ [(false,[val (.bool (aQ x))])]):=by
 refine sF func86 fun h0 w0 Fz0=>?_
 refine sn 0 2 fun hl0_2=>?_
 refine sn 0 3 fun hl0_3=>?_
 refine nB ?_
 refine oG ?_
 refine rA ?_ (x:=lF nJ)
 refine Kb ?_
 refine fj ?_
 refine cx 11 (fun ga sga=>?_) (fun ga sga=>?_)
 refine ly ?_
 refine av.cases (s:=17) rfl (fun g2=>?_) (fun g2=>nomatch g2)
 refine mw ?_
 refine cd ?_
 exact AL
 refine Ch ?_
 refine rU ?_
 refine qp ?_
 refine cx 17 (fun gb sgb=>?_) (fun gb sgb=>?_)
 refine uO ?_
 refine cd ?_
 exact AL
 refine xK ?_
 refine rB gb ?_ (x:=lN gK)
 refine Cu ?_
 refine sc ?_ ?_<;>intro hba
 exact AL
 have hfirst:(aE x.Id 0 23&&(aE x.ade 0 3&&decide ((x.ada.length:Int)≤3)))=true:=eX
 refine dH ?_
 refine sS [1,2] [1] ?_
 refine sf ?_
 refine dM ?_
 refine sP [1,2,24,25,26] [1] ?_
 refine sL [1,24,25] [1] (fun k:Nat=>k≤x.ada.length∧lG ⟨0,0,0⟩ iD mH x.ada k=true) (fun k:Nat=>[(26,RV.int (k:Int))]) (fun k:Nat=>[]) (fun k:Nat=>x.ada.length - k) 0 jM cb au ?_
 rintro k ⟨hk,ha⟩
 refine bO ?_
 refine sc ?_ ?_<;>intro hbb
 have hlt:k < x.ada.length:=ab
 have hgk:x.ada.getD k ⟨0,0,0⟩=x.ada[k]:=iC hlt
 have hgp:0 < k→x.ada.getD (k - 1) ⟨0,0,0⟩=x.ada[k - 1]:=fun h=>iC ab
 refine bA ?_
 refine sT [1,24,25,26] [1] ?_
 refine rM ?_
 refine xF ?_
 refine rX ?_ (x:=(ew ae oW yw))
 refine rS ?_
 refine LQ ?_
 refine aU ?_
 refine sO [(1,_),(3,_),(4,_),(24,_),(25,_),(26,_)] [(1,_),(4,(65,gH))] ?_
 refine dr ?_
 refine dA 0 ?_ (x:=lD gH ti)
 refine dA 1 ?_ (x:=cL [(true,gH)] [(true,gH)] TM (hs:=by exact Xc))
 refine dA 3 ?_ (x:=nT)
 refine dA 7 ?_ (x:=sM)
 refine dx 34 (fun gc sgc=>?_) (fun gc sgc=>?_)
 refine dT 15 gc ?_
 refine dT 31 gc ?_
 refine dT 63 gc ?_
 refine dU 127 ?_
 refine dU 255 ?_
 refine dU 127 ?_
 refine dU 639 ?_
 refine dU 2047 ?_
 refine dU 4095 ?_
 refine dU 8191 ?_
 refine dU 127 ?_
 refine dU 16511 ?_
 refine dU 65535 ?_
 refine dT 131071 gc ?_
 refine dA 262143 ?_ (x:=bF gc)
 refine cd ?_
 exact Ik
 refine dB 15 gc ?_ (x:=sM)
 refine dB 31 gc ?_ (x:=fH)
 refine dB 63 gc ?_ (x:=sM)
 refine dx 37 (fun gd sgd=>?_) (fun gd sgd=>?_)
 refine dB 127 gd ?_ (x:=lF kK)
 refine dB 255 gd ?_ (x:=lD [sl .v _] lJ)
 refine dB 127 gd ?_ (x:=sM)
 refine dB 639 gd ?_ (x:=nr)
 refine dB 2047 gd ?_ (x:=bT (k:=k - 1) ae gK au ab dW aj)
 refine dB 4095 gd ?_ (x:=lg ae oU aH)
 refine dB 8191 gd ?_ (x:=lE [val _] bB)
 refine dB 127 gd ?_ (x:=lF oU)
 refine dB 16511 gd ?_ (x:=lD [val _] bB)
 refine dB 65535 gd ?_ (x:=ll)
 refine dB 131071 gc ?_ (x:=bF gd)
 refine dA 262143 ?_ (x:=aK gc)
 refine sc ?_ ?_<;>intro hbc
 exact Ik
 exact Il
 refine dF 127 gd ?_
 refine dF 255 gd ?_
 refine dF 127 gd ?_
 refine dF 639 gd ?_
 refine dF 2047 gd ?_
 refine dF 4095 gd ?_
 refine dF 8191 gd ?_
 refine dF 127 gd ?_
 refine dF 16511 gd ?_
 refine dF 65535 gd ?_
 refine dB 131071 gc ?_ (x:=aK gd)
 refine dA 262143 ?_ (x:=aK gc)
 refine fW ?_
 exact Il
 have hend:k=x.ada.length:=ab
 have hall:eS ⟨0,0,0⟩ iD mH x.ada=true:=yr ha hend
 refine qo ?_
 refine sT [1,24,25,26] [1] ?_
 refine rA ?_ (x:=lF tc)
 refine sC ?_
 refine sP [1,24,25,26,52,53,54] [1] ?_
 refine sL [1,24,25,26,52,53] [1] (fun k2:Nat=>k2≤x.Out.length∧(x.Out.take k2).all hI=true) (fun k2:Nat=>[(54,RV.int (k2:Int))]) (fun k2:Nat=>[]) (fun k2:Nat=>x.Out.length - k2) 0 kt cb au ?_
 rintro k2 ⟨hk2,ha2⟩
 refine bO ?_
 refine sc ?_ ?_<;>intro hbc
 have hlt2:k2 < x.Out.length:=ab
 refine bA ?_
 refine sT [1,24,25,26,52,53,54] [1] ?_
 refine oL ?_
 refine sS [1,6,24,25,26,52,53,54] [1] ?_
 refine rM ?_
 refine rA ?_ (x:=cL [(false,[val _])] [(false,[val _])] Dc (hs:=by exact Ed))
 refine fw ?_
 refine sc ?_ ?_<;>intro hbd
 have hno2:hI x.Out[k2]=false:=by simpa [hI] using hbd
 have hn3:x.Out.all hI=false:=mC hlt2 hno2
 refine sS [1,6,24,25,26,52,53,54] [1] ?_
 refine rK ?_
 exact xk
 have hyes:hI x.Out[k2]=true:=by simpa [hI] using hbd
 refine bd ?_
 refine sG [1,6,24,25,26,52,53,54] [1] ?_
 refine cf ?_
 refine nx (k2+1) (by exact ⟨ab,ym ha2 hlt2 hyes⟩)
 have hall2:x.Out.all hI=true:=kH (by rw [show x.Out.length=k2 by omega];exact ha2)
 refine bv ?_
 refine sT [1,24,25,26,52,53,54] [1] ?_
 refine rA ?_ (x:=lF tc)
 refine qi ?_
 refine yd ?_
 refine rS ?_
 exact xk
def Xf{q:ac9}{f:Int}{v:Int}:aS prog 285 [(true,[val (vI q.Id),val (vI q.ade),sl .v (q.ada.map bU),sl .v (q.Out.map ax)]),(false,[val (vI f)]),(false,[val (vI v)])] (aJ [(false,[val (.bool (mK q f v))])]):=by
 refine sF func285 fun h0 w0 Fz0=>?_
 refine sn 0 2 fun hl0_2=>?_
 refine sn 0 3 fun hl0_3=>?_
 refine nB ?_
 refine gJ ?_
 refine sT [1,2,3,6] [3] ?_
 refine sf ?_
 refine dM ?_
 refine sP [1,2,3,6,10,11,12] [3] ?_
 refine sL [1,2,3,10,11] [3] (fun k:Nat=>k≤q.ada.length∧(q.ada.take k).all (mJ f v)=true) (fun k:Nat=>[(12,RV.int (k:Int))]) (fun k:Nat=>[]) (fun k:Nat=>q.ada.length - k) 0 kt cb au ?_
 rintro k ⟨hk,ha⟩
 refine bO ?_
 refine sc ?_ ?_<;>intro hba
 have hlt:k < q.ada.length:=ab
 refine bA ?_
 refine sT [1,2,3,10,11,12] [3] ?_
 refine xF ?_
 refine BB ?_
 refine aU ?_
 refine sO [(1,_),(2,_),(3,_),(8,_),(10,_),(11,_),(12,_)] [(3,_),(8,(65,gH))] ?_
 refine bh ?_
 refine Cs ?_
 refine rM ?_
 refine oH ?_
 refine cx 20 (fun ga sga=>?_) (fun ga sga=>?_)
 refine gv ?_
 refine Cg ?_
 refine rB ga ?_ (x:=lF oV)
 refine jz ?_
 refine rU ?_
 refine jx ?_
 refine sc ?_ ?_<;>intro hbb
 have hno:mJ f v q.ada[k]=false:=by simp_all [mJ]
 refine sS [1,2,3,8,10,11,12] [3,8] ?_
 refine bG ?_
 exact rb (by simp [mK,mC (P:=(mJ f v)) hlt hno])
 exact Im
 refine iA ?_
 refine fW ?_
 exact Im
 have hall:q.ada.all (mJ f v)=true:=kH (by rw [show q.ada.length=k by omega];exact ha)
 refine bv ?_
 refine sT [1,2,3,10,11,12] [3] ?_
 refine bG ?_
 exact rb (by simp [mK,hall, *])
def Xg{q:ac9}{r:Row}:aS prog 251 [(true,[val (vI q.Id),val (vI q.ade),sl .v (q.ada.map bU),sl .v (q.Out.map ax)]),(true,[val (vI r.Id),sl .v (r.Values.map ax)])] (aJ [(false,[val (.bool (eh q r))])]):=by
 refine sF func251 fun h0 w0 Fz0=>?_
 refine sn 0 2 fun hl0_2=>?_
 refine sn 0 3 fun hl0_3=>?_
 refine sn 1 1 fun hl1_1=>?_
 refine BV ?_
 refine xY ?_
 refine qe ?_
 refine fj ?_
 refine cx 10 (fun ga sga=>?_) (fun ga sga=>?_)
 refine jT ?_
 exact In
 refine Lm ?_
 refine oE ?_
 refine sc ?_ ?_<;>intro hba
 exact In
 have hok:aQ q=true∧bf r=true:=eX
 refine dH ?_
 refine sS [2,3,4] [2,3] ?_
 refine rA ?_ (x:=lF lI)
 refine sC ?_
 refine sP [2,3,4,16,17,18] [2,3] ?_
 refine sL [2,3,16,17] [2,3] (fun k:Nat=>k≤r.Values.length∧(∀i:Nat,i < k→mK q (i:Int) (r.Values.getD i 0)=true)) (fun k:Nat=>[(18,RV.int (k:Int))]) (fun k:Nat=>[]) (fun k:Nat=>r.Values.length - k) 0 (by exact ⟨ab,fun i hi=>absurd hi (Nat.not_lt_zero _)⟩) cb au ?_
 rintro k ⟨hk,ha⟩
 refine bO ?_
 refine sc ?_ ?_<;>intro hbb
 have hlt:k < r.Values.length:=ab
 refine bA ?_
 refine sT [2,3,16,17,18] [2,3] ?_
 refine rM ?_
 refine qd ?_
 refine jS ?_
 refine sS [2,3,5,6,16,17,18] [2,3] ?_
 refine qx ?_
 refine fv ?_
 refine rA ?_ (x:=cL [(true,cD),(false,[val _]),(false,[val _])] [(true,cI),(false,[val _]),(false,[val _])] TU (hs:=by exact Xf))
 refine fw ?_
 refine sc ?_ ?_<;>intro hbc
 have hno:eh q r=false:=TF (i:=k) (by rw [←CY hlt];simpa using hbc)
 refine sS [2,3,5,6,16,17,18] [2,3] ?_
 refine bG ?_
 exact rb (hno.symm)
 have hyes:mK q (k:Int) (r.Values.getD k 0)=true:=by rw [←CY hlt];simpa using hbc
 refine bd ?_
 refine sG [2,3,5,6,16,17,18] [2,3] ?_
 refine cf ?_
 refine nx (k+1) (by exact ⟨ab,fun i hi=>by by_cases e:i=k;(· subst e;exact hyes);(· exact ha i ab)⟩)
 have hall:=TE hok.1 hok.2 (fun i hi=>ha i ab)
 refine bv ?_
 refine sT [2,3,16,17,18] [2,3] ?_
 refine bG ?_
 exact rb (hall.symm)
def Xh{q:ac9}{r:Row}:aS prog 101 [(true,[val (vI q.Id),val (vI q.ade),sl .v (q.ada.map bU),sl .v (q.Out.map ax)]),(true,[val (vI r.Id),sl .v (r.Values.map ax)])] (aJ [(false,[val (.bool (eh q r))])]):=by
 refine sF func101 fun h0 w0 Fz0=>?_
 refine sn 0 2 fun hl0_2=>?_
 refine sn 0 3 fun hl0_3=>?_
 refine sn 1 1 fun hl1_1=>?_
 refine BV ?_
 refine xY ?_
 refine iY ?_
 refine sP [2,3,4,5] [2,3] ?_
 refine sL [2,3] [2,3] (fun k:Nat=>k≤q.ada.length∧(q.ada.take k).all (mI r)=true) (fun k:Nat=>[(5,RV.int (k:Int))]) (fun k:Nat=>[]) (fun k:Nat=>q.ada.length - k) 0 kt cb au ?_
 rintro k ⟨hk,ha⟩
 refine jU ?_
 refine sf ?_
 refine sx ?_
 refine cx 12 (fun ga sga=>?_) (fun ga sga=>?_)
 refine ye ?_
 refine rB ga ?_ (x:=cL [(true,cO)] [(true,dK)] MN (hs:=by exact Ok))
 refine sr ?_
 refine cx 16 (fun gb sgb=>?_) (fun gb sgb=>?_)
 refine KQ ?_
 refine rA ?_ (x:=bF gb)
 refine sc ?_ ?_<;>intro hba
 have hlt:k < q.ada.length:=GB
 have hok:bf r=true∧aQ q=true:=eX
 have hf:=MI hok.2 (List.getElem_mem hlt)
 have hl:=yt hok.1
 refine bA ?_
 refine sT [2,3,5] [2,3] ?_
 refine Bt ?_
 refine rM ?_
 refine xF ?_
 refine BB ?_
 refine aU ?_
 refine sO [(2,_),(3,_),(5,_),(6,_)] [(2,_),(3,_),(6,(65,gH))] ?_
 refine dr ?_
 refine dA 0 ?_ (x:=lF lI)
 refine dA 1 ?_ (x:=lD [sl .v _] ek)
 refine dA 0 ?_ (x:=lF oU)
 refine dA 4 ?_ (x:=lD [val _] bB)
 refine dA 15 ?_ (x:=bT (k:=q.ada[k].Field.toNat) ae ej au ab (by exact iu ab (by rw [CY (d:=0) ab])) aj)
 refine dA 31 ?_ (x:=lE [val _] bB)
 refine dA 0 ?_ (x:=lF vi)
 refine dA 64 ?_ (x:=lD [val _] bB)
 refine dA 0 ?_ (x:=lF oV)
 refine dA 256 ?_ (x:=lD [val _] bB)
 refine dA 1023 ?_ (x:=cL [(false,[val _]),(false,[val _]),(false,[val _])] [(false,[val _]),(false,[val _]),(false,[val _])] Dd (hs:=by exact Ec))
 refine dA 2047 ?_ (x:=nT)
 refine sc ?_ ?_<;>intro hbb
 have hno:mI r q.ada[k]=false:=by simpa [mI,vd] using hbb
 refine sS [2,3,5,6] [2,3,6] ?_
 refine bG ?_
 exact rb (by simp [eh,mC hlt hno])
 have hyes:mI r q.ada[k]=true:=by simpa [mI,vd] using hbb
 refine bd ?_
 refine sG [2,3,5,6] [2,3,6] ?_
 exact AK
 exact Io
 refine uN ?_
 refine fW ?_
 exact Io
 refine qu ?_
 refine av.cases (s:=16) rfl (fun g8=>nomatch g8) (fun g8=>?_)
 refine zf g8 ?_
 refine rA ?_ (x:=aK g8)
 refine fW ?_
 have hend:bf r=true→aQ q=true→q.ada.all (mI r)=true:=fun h1 h2=>kH Gg
 refine bv ?_
 refine sT [2,3,5] [2,3] ?_
 refine BN ?_
 refine rM ?_
 refine cx 41 (fun gb sgb=>?_) (fun gb sgb=>?_)
 refine KQ ?_
 refine rA ?_ (x:=bF gb)
 exact xl
 refine uN ?_
 exact xl
def Eh{x:adb}:aS prog 113 [(true,[val (vI x.Kind),val (vI x.Row.Id),sl .v (x.Row.Values.map ax),val (vI x.Field),val (vI x.Value)])] (aJ [(false,[val (.bool (ci x))])]):=by
 refine sF func113 fun h0 w0 Fz0=>?_
 refine sn 0 2 fun hl0_2=>?_
 refine BR ?_
 refine si ?_
 refine Ct ?_
 refine qt ?_
 refine cx 8 (fun ga sga=>?_) (fun ga sga=>?_)
 refine rB ga ?_ (x:=lF tf)
 refine xL ?_
 refine rB ga ?_ (x:=lN ej)
 refine qk ?_
 refine gu ?_
 refine jX ?_
 refine oD ?_
 refine fG ?_
 refine sd ?_
 refine sc ?_ ?_<;>intro hba
 refine sS [1,2,3,16] [1] ?_
 refine oN ?_
 refine xG ?_
 refine rM ?_
 refine cx 22 (fun gb sgb=>?_) (fun gb sgb=>?_)
 exact Ir
 refine lx ?_
 refine av.cases (s:=27) rfl (fun g5=>nomatch g5) (fun g5=>?_)
 refine xZ ?_
 exact nz
 refine sd ?_
 refine sc ?_ ?_<;>intro hbb
 refine xW ?_
 refine cx 35 (fun gb sgb=>?_) (fun gb sgb=>?_)
 refine uF ?_
 refine rB gb ?_ (x:=iV)
 refine kD ?_
 refine cx 40 (fun gc sgc=>?_) (fun gc sgc=>?_)
 exact Iq
 exact AM
 refine lx ?_
 refine av.cases (s:=40) rfl (fun g9=>nomatch g9) (fun g9=>?_)
 refine zf g9 ?_
 refine rA ?_ (x:=aK g9)
 exact nz
 refine sd ?_
 refine sc ?_ ?_<;>intro hbc
 refine xW ?_
 refine cx 48 (fun gb sgb=>?_) (fun gb sgb=>?_)
 refine uF ?_
 refine rB gb ?_ (x:=cL [(false,[val _])] [(false,[val _])] Dc (hs:=by exact Ed))
 refine kD ?_
 refine cx 53 (fun gc sgc=>?_) (fun gc sgc=>?_)
 refine rB gc ?_ (x:=lF qB)
 refine Bu ?_
 refine my ?_
 exact nz
 exact AM
 refine lx ?_
 refine av.cases (s:=53) rfl (fun g13=>nomatch g13) (fun g13=>?_)
 refine zf g13 ?_
 refine rA ?_ (x:=aK g13)
 exact nz
 exact Is
 refine iA ?_
 refine gu ?_
 refine jX ?_
 refine oD ?_
 refine fG ?_
 refine sd ?_
 refine sc ?_ ?_<;>intro hba
 refine sS [1,2,3,16] [1] ?_
 refine oN ?_
 refine xG ?_
 refine rM ?_
 refine cx 22 (fun gb sgb=>?_) (fun gb sgb=>?_)
 exact Ir
 refine lx ?_
 refine av.cases (s:=27) rfl (fun g17=>nomatch g17) (fun g17=>?_)
 refine zf g17 ?_
 refine rA ?_ (x:=aK g17)
 exact nz
 refine sd ?_
 refine sc ?_ ?_<;>intro hbb
 refine xW ?_
 refine av.cases (s:=35) rfl (fun g19=>nomatch g19) (fun g19=>?_)
 refine zf g19 ?_
 refine rA ?_ (x:=aK g19)
 refine rM ?_
 refine av.cases (s:=40) rfl (fun g20=>nomatch g20) (fun g20=>?_)
 refine zf g20 ?_
 refine rA ?_ (x:=aK g20)
 exact nz
 refine sd ?_
 refine sc ?_ ?_<;>intro hbc
 refine xW ?_
 refine av.cases (s:=48) rfl (fun g22=>nomatch g22) (fun g22=>?_)
 refine zf g22 ?_
 refine rA ?_ (x:=aK g22)
 refine rM ?_
 refine av.cases (s:=53) rfl (fun g23=>nomatch g23) (fun g23=>?_)
 refine zf g23 ?_
 refine rA ?_ (x:=aK g23)
 exact nz
 exact Is
end Go.Proofs.YtmekkgdboplbjaaGreatDoor
