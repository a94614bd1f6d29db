/- What functions of the program compute. No condition. -/
import Derived.Test.YtmekkgdboplbjaaGreatCD0
import Derived.Test.YtmekkgdboplbjaaGreatCF0
set_option linter.all false
namespace Go.Proofs.YtmekkgdboplbjaaGreat
open Go Go.RowKit M PV Tryz
set_option maxRecDepth 10000
attribute [local irreducible] PV.Lcl PV.LclR RV.Lcl
def S8 {x : List Int} {y : List Int}  : aC prog 123 [(false, [sl .v (x.map ak)]), (false, [sl .v (y.map ak)])] (az [(false, [val (.bool (dh x y))])]) := by
 refine sF func123 fun h0 w0 Fz0 => ?_
 refine sj 0 fun hl0 => ?_
 refine sj 1 fun hl1 => ?_
 refine ta ?_
 refine iV ?_
 refine vW ?_
 refine sc (fun hba => ?_) (fun hba => ?_)
 exact nD
 have hl : x.length = y.length := by omega
 refine mF ?_
 rintro k ⟨hk, ha⟩
 refine jl ?_
 refine sc (fun hbb => ?_) (fun hbb => ?_)
 have hlt : k < x.length := by omega
 have hlt2 : k < y.length := by omega
 refine lJ ?_
 refine qE ?_
 refine eE ?_
 refine yX ?_
 refine dA 255 ?_ (x := eM)
 refine sc (fun hbc => ?_) (fun hbc => ?_)
 have hne : x[k] ≠ y[k] := by simpa using hbc
 exact Dw
 have heq : x[k] = y[k] := by simpa using hbc
 exact Dx
 exact mm
def S9 {x : cS} {y : cS}  : aC prog 267 [(true, [val (vI x.Field), val (vI x.Low), val (vI x.High)]), (true, [val (vI y.Field), val (vI y.Low), val (vI y.High)])] (az [(false, [val (.bool (dh x y))])]) := by
 refine sF func267 fun h0 w0 Fz0 => ?_
 refine u8 ?_
 refine rX ?_ (x := (cI (ag := true) (cs := [val _, val _, val _]) (by decide) (by exact tI)))
 refine j6 ?_
 refine zS ?_
 refine rA ?_ (x := lF kR)
 refine dV ?_
 refine sc (fun hba => ?_) (fun hba => ?_)
 exact cd
 refine cP ?_
 refine rA ?_ (x := lF om)
 refine rA ?_ (x := lD [val _] au)
 refine rA ?_ (x := lF om)
 refine dV ?_
 refine sc (fun hbb => ?_) (fun hbb => ?_)
 exact cd
 refine cP ?_
 refine rA ?_ (x := lF kS)
 refine rA ?_ (x := lD [val _] au)
 refine rA ?_ (x := lF kS)
 refine dV ?_
 refine sc (fun hbc => ?_) (fun hbc => ?_)
 exact cd
 refine kE ?_
 exact rb (by exact (iW (by apply NR <;> simp_all [fC])).symm)
def Ta {x : cE} {y : cE}  : aC prog 218 [(true, [val (vI x.Segment), val (vI x.Base), sl .v (x.Ids.map ak), sl .v (x.Wy.map ak), sl .v (x.Rows.map ak)]), (true, [val (vI y.Segment), val (vI y.Base), sl .v (y.Ids.map ak), sl .v (y.Wy.map ak), sl .v (y.Rows.map ak)])] (az [(false, [val (.bool (dh x y))])]) := by
 refine sF func218 fun h0 w0 Fz0 => ?_
 refine sn 0 2 fun hl0_2 => ?_
 refine sn 0 3 fun hl0_3 => ?_
 refine sn 0 4 fun hl0_4 => ?_
 refine sn 1 2 fun hl1_2 => ?_
 refine sn 1 3 fun hl1_3 => ?_
 refine sn 1 4 fun hl1_4 => ?_
 refine oZ ?_
 refine rX ?_ (x := (cI (ag := true) (cs := [val _, val _, sl _ _, sl _ _, sl _ _]) (by decide) (by exact tI)))
 refine j6 ?_
 refine rA ?_ (x := lF oo)
 refine rA ?_ (x := lD [val _] au)
 refine rA ?_ (x := lF oo)
 refine dV ?_
 refine sc (fun hba => ?_) (fun hba => ?_)
 exact cd
 refine cP ?_
 refine rA ?_ (x := lF lW)
 refine rA ?_ (x := lD [val _] au)
 refine rA ?_ (x := lF lW)
 refine dV ?_
 refine sc (fun hbb => ?_) (fun hbb => ?_)
 exact cd
 refine cP ?_
 refine zR ?_
 refine rA ?_ (x := lF kU)
 refine nV ?_
 refine sc (fun hbc => ?_) (fun hbc => ?_)
 exact cd
 refine cP ?_
 refine rA ?_ (x := lF jx)
 refine rA ?_ (x := lD [sl .v _] bq)
 refine rA ?_ (x := lF jx)
 refine nV ?_
 refine sc (fun hbd => ?_) (fun hbd => ?_)
 exact cd
 refine cP ?_
 refine rA ?_ (x := lF iA)
 refine rA ?_ (x := lD [sl .v _] bq)
 refine rA ?_ (x := lF iA)
 refine nV ?_
 refine sc (fun hbe => ?_) (fun hbe => ?_)
 exact cd
 refine kE ?_
 exact rb (by exact (iW (by apply NS <;> simp_all [fC])).symm)
def Tb {x : List cS} {y : List cS}  : aC prog 219 [(false, [sl .v (x.map bf)]), (false, [sl .v (y.map bf)])] (az [(false, [val (.bool (dh x y))])]) := by
 refine sF func219 fun h0 w0 Fz0 => ?_
 refine sj 0 fun hl0 => ?_
 refine sj 1 fun hl1 => ?_
 refine pv ?_
 refine rA ?_ (x := lN dZ)
 refine rA ?_ (x := vM false [sl .v _])
 refine rA ?_ (x := lN dZ)
 refine rA ?_ (x := eM)
 refine sc (fun hba => ?_) (fun hba => ?_)
 exact nD
 have hl : x.length = y.length := by omega
 refine mF ?_
 rintro k ⟨hk, ha⟩
 refine cQ ?_
 refine vq ?_
 refine sc (fun hbb => ?_) (fun hbb => ?_)
 have hlt : k < x.length := by omega
 have hlt2 : k < y.length := by omega
 refine lJ ?_
 refine HJ ?_
 refine eE ?_
 refine HH ?_
 refine dA 255 ?_ (x := cL [(true, [val _, val _, val _]), (true, [val _, val _, val _])] [(true, [val _, val _, val _]), (true, [val _, val _, val _])] PP (hs := by exact S9))
 exact oL
 exact mm
def K3 {x : Row} {y : Row}  : aC prog 220 [(true, [val (vI x.Id), sl .v (x.Values.map ak)]), (true, [val (vI y.Id), sl .v (y.Values.map ak)])] (az [(false, [val (.bool (dh x y))])]) := by
 refine sF func220 fun h0 w0 Fz0 => ?_
 refine sn 0 1 fun hl0_1 => ?_
 refine sn 1 1 fun hl1_1 => ?_
 refine IR ?_
 refine j6 ?_
 refine rA ?_ (x := lF jw)
 refine zX ?_
 refine dV ?_
 refine sc (fun hba => ?_) (fun hba => ?_)
 exact cd
 refine cP ?_
 refine rA ?_ (x := lF gY)
 refine rA ?_ (x := lD [sl .v _] bq)
 refine rA ?_ (x := lF gY)
 refine nV ?_
 refine sc (fun hbb => ?_) (fun hbb => ?_)
 exact cd
 refine kE ?_
 exact rb (by exact (iW (by apply NT <;> simp_all [fC])).symm)
def Tc {x : aT} {y : aT}  : aC prog 282 [(true, [val (vI x.Id), sl .v (x.Values.map ak), val (vI x.WG), val (vI x.WC)]), (true, [val (vI y.Id), sl .v (y.Values.map ak), val (vI y.WG), val (vI y.WC)])] (az [(false, [val (.bool (dh x y))])]) := by
 refine sF func282 fun h0 w0 Fz0 => ?_
 refine sn 0 1 fun hl0_1 => ?_
 refine sn 1 1 fun hl1_1 => ?_
 refine zm ?_
 refine j6 ?_
 refine vF ?_
 refine dV ?_
 refine sc (fun hba => ?_) (fun hba => ?_)
 exact cd
 refine cP ?_
 refine rA ?_ (x := lF i2)
 refine rA ?_ (x := lD [sl .v _] bq)
 refine rA ?_ (x := lF i2)
 refine nV ?_
 refine sc (fun hbb => ?_) (fun hbb => ?_)
 exact cd
 refine cP ?_
 refine zT ?_
 refine rA ?_ (x := lF i3)
 refine dV ?_
 refine sc (fun hbc => ?_) (fun hbc => ?_)
 exact cd
 refine cP ?_
 refine rA ?_ (x := lF fR)
 refine rA ?_ (x := lD [val _] au)
 refine rA ?_ (x := lF fR)
 refine dV ?_
 refine sc (fun hbd => ?_) (fun hbd => ?_)
 exact cd
 refine kE ?_
 exact rb (by exact (iW (by apply NV <;> simp_all [fC])).symm)
def Td {p1 p2 p3 p5 p6 p7 : Fl} {x : List cE} {y : List cE}  : aC prog 126 [(false, [sl .v (x.map (a7 p1 p2 p3))]), (false, [sl .v (y.map (a7 p5 p6 p7))])] (az [(false, [val (.bool (dh x y))])]) := by
 refine sF func126 fun h0 w0 Fz0 => ?_
 refine sj 0 fun hl0 => ?_
 refine sj 1 fun hl1 => ?_
 refine pv ?_
 refine rA ?_ (x := lN dY)
 refine rA ?_ (x := vM false [sl .v _])
 refine rA ?_ (x := lN dY)
 refine rA ?_ (x := eM)
 refine sc (fun hba => ?_) (fun hba => ?_)
 exact nD
 have hl : x.length = y.length := by omega
 refine mF ?_
 rintro k ⟨hk, ha⟩
 refine cQ ?_
 refine vr ?_
 refine sc (fun hbb => ?_) (fun hbb => ?_)
 have hlt : k < x.length := by omega
 have hlt2 : k < y.length := by omega
 refine lJ ?_
 refine dA 3 ?_ (x := aY (by decide) dY (by exact tI) (by exact rfl) (by exact be (by omega) rfl) (by exact rfl))
 refine dA 7 ?_ (x := lE [val _, val _, sl .v _, sl .v _, sl .v _] i8)
 refine eE ?_
 refine dA 48 ?_ (x := aY (by decide) dY (by exact tI) (by exact rfl) (by exact be (by omega) rfl) (by exact rfl))
 refine dA 112 ?_ (x := lE [val _, val _, sl .v _, sl .v _, sl .v _] i8)
 refine dA 255 ?_ (x := cL [(true, [val _, val _, sl _ _, sl _ _, sl _ _]), (true, [val _, val _, sl _ _, sl _ _, sl _ _])] [(true, [val _, val _, sl .v _, sl .v _, sl .v _]), (true, [val _, val _, sl .v _, sl .v _, sl .v _])] Pz (hs := by exact Ta))
 exact oL
 exact mm
def Te {x : Wt} {y : Wt}  : aC prog 127 [(true, [val (vI x.Id), val (vI x.Wx), sl .v (x.Wu.map bf), sl .v (x.Out.map ak)]), (true, [val (vI y.Id), val (vI y.Wx), sl .v (y.Wu.map bf), sl .v (y.Out.map ak)])] (az [(false, [val (.bool (dh x y))])]) := by
 refine sF func127 fun h0 w0 Fz0 => ?_
 refine sn 0 2 fun hl0_2 => ?_
 refine sn 0 3 fun hl0_3 => ?_
 refine sn 1 2 fun hl1_2 => ?_
 refine sn 1 3 fun hl1_3 => ?_
 refine IL ?_
 refine j6 ?_
 refine sX ?_
 refine rA ?_ (x := lF e8)
 refine dV ?_
 refine sc (fun hba => ?_) (fun hba => ?_)
 exact cd
 refine cP ?_
 refine rA ?_ (x := lF i5)
 refine rA ?_ (x := lD [val _] au)
 refine rA ?_ (x := lF i5)
 refine dV ?_
 refine sc (fun hbb => ?_) (fun hbb => ?_)
 exact cd
 refine cP ?_
 refine ph ?_
 refine ph ?_
 refine rA ?_ (x := cL [(false, [sl _ _]), (false, [sl _ _])] [(false, [sl .v _]), (false, [sl .v _])] PA (hs := by exact Tb))
 refine rA ?_ (x := nT)
 refine sc (fun hbc => ?_) (fun hbc => ?_)
 exact cd
 refine cP ?_
 refine rA ?_ (x := lF jv)
 refine rA ?_ (x := lD [sl .v _] bq)
 refine rA ?_ (x := lF jv)
 refine nV ?_
 refine sc (fun hbd => ?_) (fun hbd => ?_)
 exact cd
 refine kE ?_
 exact rb (by exact (iW (by apply NW <;> simp_all [fC])).symm)
def Tf {x : Wv} {y : Wv}  : aC prog 128 [(true, [val (vI x.Kind), val (vI x.Row.Id), sl .v (x.Row.Values.map ak), val (vI x.Field), val (vI x.Value)]), (true, [val (vI y.Kind), val (vI y.Row.Id), sl .v (y.Row.Values.map ak), val (vI y.Field), val (vI y.Value)])] (az [(false, [val (.bool (dh x y))])]) := by
 refine sF func128 fun h0 w0 Fz0 => ?_
 refine sn 0 2 fun hl0_2 => ?_
 refine sn 1 2 fun hl1_2 => ?_
 refine II ?_
 refine j6 ?_
 refine rA ?_ (x := lF kT)
 refine rA ?_ (x := lD [val _] au)
 refine rA ?_ (x := lF kT)
 refine dV ?_
 refine sc (fun hba => ?_) (fun hba => ?_)
 exact cd
 refine cP ?_
 refine zE ?_
 refine zE ?_
 refine rA ?_ (x := cL [(true, [val _, sl _ _]), (true, [val _, sl _ _])] [(true, [val _, sl .v _]), (true, [val _, sl .v _])] Jy (hs := by exact K3))
 refine rA ?_ (x := nT)
 refine sc (fun hbb => ?_) (fun hbb => ?_)
 exact cd
 refine cP ?_
 refine rA ?_ (x := lF lS)
 refine rA ?_ (x := lD [val _] au)
 refine rA ?_ (x := lF lS)
 refine dV ?_
 refine sc (fun hbc => ?_) (fun hbc => ?_)
 exact cd
 refine cP ?_
 refine rA ?_ (x := lF mP)
 refine sW ?_
 refine dV ?_
 refine sc (fun hbd => ?_) (fun hbd => ?_)
 exact cd
 refine kE ?_
 exact rb (by exact (iW (by apply NZ <;> simp_all [fC])).symm)
def Tg {p1 p3 : Fl} {x : List aT} {y : List aT}  : aC prog 265 [(false, [sl .v (x.map (cG p1))]), (false, [sl .v (y.map (cG p3))])] (az [(false, [val (.bool (dh x y))])]) := by
 refine sF func265 fun h0 w0 Fz0 => ?_
 refine sj 0 fun hl0 => ?_
 refine sj 1 fun hl1 => ?_
 refine ta ?_
 refine uS ?_
 refine uS ?_
 refine rA ?_ (x := eM)
 refine sc (fun hba => ?_) (fun hba => ?_)
 exact nD
 have hl : x.length = y.length := by omega
 refine mF ?_
 rintro k ⟨hk, ha⟩
 refine cQ ?_
 refine mA ?_
 refine sc (fun hbb => ?_) (fun hbb => ?_)
 have hlt : k < x.length := by omega
 have hlt2 : k < y.length := by omega
 refine lJ ?_
 refine dA 3 ?_ (x := aY (by decide) ck (by exact tI) (by exact rfl) (by exact be (by omega) rfl) (by exact rfl))
 refine dA 7 ?_ (x := lE [val _, sl .v _, val _, val _] dO)
 refine eE ?_
 refine dA 48 ?_ (x := aY (by decide) ck (by exact tI) (by exact rfl) (by exact be (by omega) rfl) (by exact rfl))
 refine dA 112 ?_ (x := lE [val _, sl .v _, val _, val _] dO)
 refine dA 255 ?_ (x := cL [(true, [val _, sl _ _, val _, val _]), (true, [val _, sl _ _, val _, val _])] [(true, [val _, sl .v _, val _, val _]), (true, [val _, sl .v _, val _, val _])] PW (hs := by exact Tc))
 exact oL
 exact mm
def Th {p1 p3 : Fl} {x : List Row} {y : List Row}  : aC prog 266 [(false, [sl .v (x.map (bu p1))]), (false, [sl .v (y.map (bu p3))])] (az [(false, [val (.bool (dh x y))])]) := by
 refine sF func266 fun h0 w0 Fz0 => ?_
 refine sj 0 fun hl0 => ?_
 refine sj 1 fun hl1 => ?_
 refine pv ?_
 refine rA ?_ (x := lN fG)
 refine zU ?_
 refine rA ?_ (x := eM)
 refine sc (fun hba => ?_) (fun hba => ?_)
 exact nD
 have hl : x.length = y.length := by omega
 refine mF ?_
 rintro k ⟨hk, ha⟩
 refine cQ ?_
 refine vt ?_
 refine sc (fun hbb => ?_) (fun hbb => ?_)
 have hlt : k < x.length := by omega
 have hlt2 : k < y.length := by omega
 refine lJ ?_
 refine dA 3 ?_ (x := aY (by decide) fG (by exact tI) (by exact rfl) (by exact be (by omega) rfl) (by exact rfl))
 refine dA 7 ?_ (x := lE [val _, sl .v _] eS)
 refine eE ?_
 refine dA 48 ?_ (x := aY (by decide) fG (by exact tI) (by exact rfl) (by exact be (by omega) rfl) (by exact rfl))
 refine dA 112 ?_ (x := lE [val _, sl .v _] eS)
 refine dA 255 ?_ (x := cL [(true, [val _, sl _ _]), (true, [val _, sl _ _])] [(true, [val _, sl .v _]), (true, [val _, sl .v _])] Jy (hs := by exact K3))
 exact oL
 exact mm
def Ti {x : eH} {y : eH}  : aC prog 42 [(true, [val (vI x.Kind), val (vI x.Wt.Id), val (vI x.Wt.Wx), sl .v (x.Wt.Wu.map bf), sl .v (x.Wt.Out.map ak), val (vI x.Limit), val (vI x.Id), val (vI x.Wv.Kind), val (vI x.Wv.Row.Id), sl .v (x.Wv.Row.Values.map ak), val (vI x.Wv.Field), val (vI x.Wv.Value), val (vI x.Steps)]), (true, [val (vI y.Kind), val (vI y.Wt.Id), val (vI y.Wt.Wx), sl .v (y.Wt.Wu.map bf), sl .v (y.Wt.Out.map ak), val (vI y.Limit), val (vI y.Id), val (vI y.Wv.Kind), val (vI y.Wv.Row.Id), sl .v (y.Wv.Row.Values.map ak), val (vI y.Wv.Field), val (vI y.Wv.Value), val (vI y.Steps)])] (az [(false, [val (.bool (dh x y))])]) := by
 refine sF func42 fun h0 w0 Fz0 => ?_
 refine sn 0 3 fun hl0_3 => ?_
 refine sn 0 4 fun hl0_4 => ?_
 refine sn 0 9 fun hl0_9 => ?_
 refine sn 1 3 fun hl1_3 => ?_
 refine sn 1 4 fun hl1_4 => ?_
 refine sn 1 9 fun hl1_9 => ?_
 refine so ?_
 refine rX ?_ (x := (cI (ag := true) (cs := [val _, val _, val _, sl _ _, sl _ _, val _, val _, val _, val _, sl _ _, val _, val _, val _]) (by decide) (by exact tI)))
 refine j6 ?_
 refine rA ?_ (x := lF wj)
 refine rA ?_ (x := lD [val _] au)
 refine rA ?_ (x := lF wj)
 refine dV ?_
 refine sc (fun hba => ?_) (fun hba => ?_)
 exact cd
 refine cP ?_
 refine nI ?_
 refine nI ?_
 refine yI ?_
 refine sc (fun hbb => ?_) (fun hbb => ?_)
 exact cd
 refine cP ?_
 refine zY ?_
 refine rA ?_ (x := lF pM)
 refine dV ?_
 refine sc (fun hbc => ?_) (fun hbc => ?_)
 exact cd
 refine cP ?_
 refine zZ ?_
 refine rA ?_ (x := lF lT)
 refine dV ?_
 refine sc (fun hbd => ?_) (fun hbd => ?_)
 exact cd
 refine cP ?_
 refine pd ?_
 refine pd ?_
 refine rA ?_ (x := cL [(true, [val _, val _, sl _ _, val _, val _]), (true, [val _, val _, sl _ _, val _, val _])] [(true, [val _, val _, sl .v _, val _, val _]), (true, [val _, val _, sl .v _, val _, val _])] OZ (hs := by exact Tf))
 refine rA ?_ (x := nT)
 refine sc (fun hbe => ?_) (fun hbe => ?_)
 exact cd
 refine cP ?_
 refine z7 ?_
 refine rA ?_ (x := lF mQ)
 refine dV ?_
 refine sc (fun hbf => ?_) (fun hbf => ?_)
 exact cd
 refine kE ?_
 exact rb (by exact (iW (by apply N3 <;> simp_all [fC])).symm)
def Tj {p1 p2 p4 p5 : Fl} {x : List (List aT)} {y : List (List aT)}  : aC prog 215 [(false, [sl .v (x.map (aD p1 p2))]), (false, [sl .v (y.map (aD p4 p5))])] (az [(false, [val (.bool (dh x y))])]) := by
 refine sF func215 fun h0 w0 Fz0 => ?_
 refine sj 0 fun hl0 => ?_
 refine sj 1 fun hl1 => ?_
 refine pv ?_
 refine rA ?_ (x := lN cV)
 refine rA ?_ (x := vM false [sl .v _])
 refine rA ?_ (x := lN cV)
 refine rA ?_ (x := eM)
 refine sc (fun hba => ?_) (fun hba => ?_)
 exact nD
 have hl : x.length = y.length := by omega
 refine mF ?_
 rintro k ⟨hk, ha⟩
 refine cQ ?_
 refine Ac ?_
 refine sc (fun hbb => ?_) (fun hbb => ?_)
 have hlt : k < x.length := by omega
 have hlt2 : k < y.length := by omega
 refine lJ ?_
 refine dA 3 ?_ (x := aY (by decide) cV (by exact tI) (by exact rfl) (by exact be (by omega) rfl) (by exact rfl))
 refine dA 7 ?_ (x := lE [sl .v _] fH)
 refine eE ?_
 refine dA 48 ?_ (x := aY (by decide) cV (by exact tI) (by exact rfl) (by exact be (by omega) rfl) (by exact rfl))
 refine dA 112 ?_ (x := lE [sl .v _] fH)
 refine dA 255 ?_ (x := cL [(false, [sl _ _]), (false, [sl _ _])] [(false, [sl .v _]), (false, [sl .v _])] PN (hs := by exact Tg))
 exact oL
 exact mm
def Tk {p4 p9 : Fl} {x : Ws} {y : Ws}  : aC prog 216 [(true, [val (vI x.Wt.Id), val (vI x.Wt.Wx), sl .v (x.Wt.Wu.map bf), sl .v (x.Wt.Out.map ak), val (vI x.Time), sl .v (x.WB.map ak), val (vI x.Age), val (vI x.Sent), val (vI x.Cap), sl .v (x.Rows.map (bu p4))]), (true, [val (vI y.Wt.Id), val (vI y.Wt.Wx), sl .v (y.Wt.Wu.map bf), sl .v (y.Wt.Out.map ak), val (vI y.Time), sl .v (y.WB.map ak), val (vI y.Age), val (vI y.Sent), val (vI y.Cap), sl .v (y.Rows.map (bu p9))])] (az [(false, [val (.bool (dh x y))])]) := by
 refine sF func216 fun h0 w0 Fz0 => ?_
 refine sn 0 2 fun hl0_2 => ?_
 refine sn 0 3 fun hl0_3 => ?_
 refine sn 0 5 fun hl0_5 => ?_
 refine sn 0 9 fun hl0_9 => ?_
 refine sn 1 2 fun hl1_2 => ?_
 refine sn 1 3 fun hl1_3 => ?_
 refine sn 1 5 fun hl1_5 => ?_
 refine sn 1 9 fun hl1_9 => ?_
 refine sr ?_
 refine HW ?_
 refine sI ?_
 refine sI ?_
 refine yI ?_
 refine sc (fun hba => ?_) (fun hba => ?_)
 exact cd
 refine cP ?_
 refine vm ?_
 refine rA ?_ (x := lF lP)
 refine dV ?_
 refine sc (fun hbb => ?_) (fun hbb => ?_)
 exact cd
 refine cP ?_
 refine zO ?_
 refine rA ?_ (x := lF gD)
 refine nV ?_
 refine sc (fun hbc => ?_) (fun hbc => ?_)
 exact cd
 refine cP ?_
 refine sV ?_
 refine rA ?_ (x := lF kP)
 refine dV ?_
 refine sc (fun hbd => ?_) (fun hbd => ?_)
 exact cd
 refine cP ?_
 refine rA ?_ (x := lF jp)
 refine rA ?_ (x := lD [val _] au)
 refine rA ?_ (x := lF jp)
 refine dV ?_
 refine sc (fun hbe => ?_) (fun hbe => ?_)
 exact cd
 refine cP ?_
 refine rA ?_ (x := lF kQ)
 refine rA ?_ (x := lD [val _] au)
 refine rA ?_ (x := lF kQ)
 refine dV ?_
 refine sc (fun hbf => ?_) (fun hbf => ?_)
 exact cd
 refine cP ?_
 refine rA ?_ (x := lF jq)
 refine rA ?_ (x := lD [sl .v _] fI)
 refine rA ?_ (x := lF jq)
 refine HV ?_
 refine rA ?_ (x := nT)
 refine sc (fun hbg => ?_) (fun hbg => ?_)
 exact cd
 refine kE ?_
 exact rb (by exact (iW (by apply N4 <;> simp_all [fC])).symm)
def Tl {p3 p7 : Fl} {x : cu} {y : cu}  : aC prog 217 [(true, [val (vI x.Wt.Id), val (vI x.Wt.Wx), sl .v (x.Wt.Wu.map bf), sl .v (x.Wt.Out.map ak), val (vI x.Time), val (vI x.Steps), sl .v (x.Rows.map (bu p3))]), (true, [val (vI y.Wt.Id), val (vI y.Wt.Wx), sl .v (y.Wt.Wu.map bf), sl .v (y.Wt.Out.map ak), val (vI y.Time), val (vI y.Steps), sl .v (y.Rows.map (bu p7))])] (az [(false, [val (.bool (dh x y))])]) := by
 refine sF func217 fun h0 w0 Fz0 => ?_
 refine sn 0 2 fun hl0_2 => ?_
 refine sn 0 3 fun hl0_3 => ?_
 refine sn 0 6 fun hl0_6 => ?_
 refine sn 1 2 fun hl1_2 => ?_
 refine sn 1 3 fun hl1_3 => ?_
 refine sn 1 6 fun hl1_6 => ?_
 refine uV ?_
 refine rX ?_ (x := (cI (ag := true) (cs := [val _, val _, sl _ _, sl _ _, val _, val _, sl _ _]) (by decide) (by exact tI)))
 refine j6 ?_
 refine sJ ?_
 refine sJ ?_
 refine yI ?_
 refine sc (fun hba => ?_) (fun hba => ?_)
 exact cd
 refine cP ?_
 refine rA ?_ (x := lF pO)
 refine rA ?_ (x := lD [val _] au)
 refine rA ?_ (x := lF pO)
 refine dV ?_
 refine sc (fun hbb => ?_) (fun hbb => ?_)
 exact cd
 refine cP ?_
 refine rA ?_ (x := lF pP)
 refine rA ?_ (x := lD [val _] au)
 refine rA ?_ (x := lF pP)
 refine dV ?_
 refine sc (fun hbc => ?_) (fun hbc => ?_)
 exact cd
 refine cP ?_
 refine rA ?_ (x := lF lV)
 refine rA ?_ (x := lD [sl .v _] fI)
 refine rA ?_ (x := lF lV)
 refine HV ?_
 refine rA ?_ (x := nT)
 refine sc (fun hbd => ?_) (fun hbd => ?_)
 exact cd
 refine kE ?_
 exact rb (by exact (iW (by apply N0 <;> simp_all [fC])).symm)
def Tm {p1 p2 p4 p5 : Fl} {x : Store} {y : Store}  : aC prog 122 [(true, [sl .v (x.Wr.map (aD p1 p2)), val (vI x.Now)]), (true, [sl .v (y.Wr.map (aD p4 p5)), val (vI y.Now)])] (az [(false, [val (.bool (dh x y))])]) := by
 refine sF func122 fun h0 w0 Fz0 => ?_
 refine sn 0 0 fun hl0_0 => ?_
 refine sn 1 0 fun hl1_0 => ?_
 refine iU ?_
 refine rX ?_ (x := (cI (ag := true) (cs := [sl _ _, val _]) (by decide) (by exact tI)))
 refine j6 ?_
 refine qz ?_
 refine qz ?_
 refine rA ?_ (x := cL [(false, [sl _ _]), (false, [sl _ _])] [(false, [sl .v _]), (false, [sl .v _])] Pw (hs := by exact Tj))
 refine rA ?_ (x := nT)
 refine sc (fun hba => ?_) (fun hba => ?_)
 exact cd
 refine cP ?_
 refine rA ?_ (x := lF fi)
 refine rA ?_ (x := lD [val _] au)
 refine rA ?_ (x := lF fi)
 refine dV ?_
 refine sc (fun hbb => ?_) (fun hbb => ?_)
 exact cd
 refine kE ?_
 exact rb (by exact (iW (by apply N6 <;> simp_all [fC])).symm)
def Tn {p1 p2 p3 p4 p5 p7 p8 p9 p10 p11 : Fl} {x : List Ws} {y : List Ws}  : aC prog 124 [(false, [sl .v (x.map (aO p1 p2 p3 p4 p5))]), (false, [sl .v (y.map (aO p7 p8 p9 p10 p11))])] (az [(false, [val (.bool (dh x y))])]) := by
 refine sF func124 fun h0 w0 Fz0 => ?_
 refine sj 0 fun hl0 => ?_
 refine sj 1 fun hl1 => ?_
 refine pv ?_
 refine rA ?_ (x := lN bI)
 refine rA ?_ (x := vM false [sl .v _])
 refine rA ?_ (x := lN bI)
 refine rA ?_ (x := eM)
 refine sc (fun hba => ?_) (fun hba => ?_)
 exact nD
 have hl : x.length = y.length := by omega
 refine mF ?_
 rintro k ⟨hk, ha⟩
 refine cQ ?_
 refine Ad ?_
 refine sc (fun hbb => ?_) (fun hbb => ?_)
 have hlt : k < x.length := by omega
 have hlt2 : k < y.length := by omega
 refine lJ ?_
 refine dA 3 ?_ (x := aY (by decide) bI (by exact tI) (by exact rfl) (by exact be (by omega) rfl) (by exact rfl))
 refine dA 7 ?_ (x := lE [val _, val _, sl .v _, sl .v _, val _, sl .v _, val _, val _, val _, sl .v _] fj)
 refine eE ?_
 refine dA 48 ?_ (x := aY (by decide) bI (by exact tI) (by exact rfl) (by exact be (by omega) rfl) (by exact rfl))
 refine dA 112 ?_ (x := lE [val _, val _, sl .v _, sl .v _, val _, sl .v _, val _, val _, val _, sl .v _] fj)
 refine dA 255 ?_ (x := cL [(true, [val _, val _, sl _ _, sl _ _, val _, sl _ _, val _, val _, val _, sl _ _]), (true, [val _, val _, sl _ _, sl _ _, val _, sl _ _, val _, val _, val _, sl _ _])] [(true, [val _, val _, sl .v _, sl .v _, val _, sl .v _, val _, val _, val _, sl .v _]), (true, [val _, val _, sl .v _, sl .v _, val _, sl .v _, val _, val _, val _, sl .v _])] Px (hs := by exact Tk))
 exact oL
 exact mm
def Tp {p1 p2 p3 p4 p6 p7 p8 p9 : Fl} {x : List cu} {y : List cu}  : aC prog 125 [(false, [sl .v (x.map (aZ p1 p2 p3 p4))]), (false, [sl .v (y.map (aZ p6 p7 p8 p9))])] (az [(false, [val (.bool (dh x y))])]) := by
 refine sF func125 fun h0 w0 Fz0 => ?_
 refine sj 0 fun hl0 => ?_
 refine sj 1 fun hl1 => ?_
 refine pv ?_
 refine rA ?_ (x := lN ez)
 refine rA ?_ (x := vM false [sl .v _])
 refine rA ?_ (x := lN ez)
 refine rA ?_ (x := eM)
 refine sc (fun hba => ?_) (fun hba => ?_)
 exact nD
 have hl : x.length = y.length := by omega
 refine mF ?_
 rintro k ⟨hk, ha⟩
 refine cQ ?_
 refine vu ?_
 refine sc (fun hbb => ?_) (fun hbb => ?_)
 have hlt : k < x.length := by omega
 have hlt2 : k < y.length := by omega
 refine lJ ?_
 refine dA 3 ?_ (x := aY (by decide) ez (by exact tI) (by exact rfl) (by exact be (by omega) rfl) (by exact rfl))
 refine dA 7 ?_ (x := lE [val _, val _, sl .v _, sl .v _, val _, val _, sl .v _] lY)
 refine eE ?_
 refine dA 48 ?_ (x := aY (by decide) ez (by exact tI) (by exact rfl) (by exact be (by omega) rfl) (by exact rfl))
 refine dA 112 ?_ (x := lE [val _, val _, sl .v _, sl .v _, val _, val _, sl .v _] lY)
 refine dA 255 ?_ (x := cL [(true, [val _, val _, sl _ _, sl _ _, val _, val _, sl _ _]), (true, [val _, val _, sl _ _, sl _ _, val _, val _, sl _ _])] [(true, [val _, val _, sl .v _, sl .v _, val _, val _, sl .v _]), (true, [val _, val _, sl .v _, sl .v _, val _, val _, sl .v _])] Py (hs := by exact Tl))
 exact oL
 exact mm
def Bb {p1 p2 p5 p6 p7 p8 p9 p11 p12 p13 p14 p16 p17 p18 p20 p21 p24 p25 p26 p27 p28 p30 p31 p32 p33 p35 p36 p37 : Fl} {x : aL} {y : aL}  : aC prog 41 [(true, [sl .v (x.Store.Wr.map (aD p1 p2)), val (vI x.Store.Now), val (vI x.Ww), sl .v (x.Order.map ak), sl .v (x.Ws.map (aO p5 p6 p7 p8 p9)), sl .v (x.Done.map (aZ p11 p12 p13 p14)), sl .v (x.WE.map (a7 p16 p17 p18)), val (vI x.Steps)]), (true, [sl .v (y.Store.Wr.map (aD p20 p21)), val (vI y.Store.Now), val (vI y.Ww), sl .v (y.Order.map ak), sl .v (y.Ws.map (aO p24 p25 p26 p27 p28)), sl .v (y.Done.map (aZ p30 p31 p32 p33)), sl .v (y.WE.map (a7 p35 p36 p37)), val (vI y.Steps)])] (az [(false, [val (.bool (dh x y))])]) := by
 refine sF func41 fun h0 w0 Fz0 => ?_
 refine sn 0 0 fun hl0_0 => ?_
 refine sn 0 3 fun hl0_3 => ?_
 refine sn 0 4 fun hl0_4 => ?_
 refine sn 0 5 fun hl0_5 => ?_
 refine sn 0 6 fun hl0_6 => ?_
 refine sn 1 0 fun hl1_0 => ?_
 refine sn 1 3 fun hl1_3 => ?_
 refine sn 1 4 fun hl1_4 => ?_
 refine sn 1 5 fun hl1_5 => ?_
 refine sn 1 6 fun hl1_6 => ?_
 refine iT ?_
 refine rX ?_ (x := (cI (ag := true) (cs := [sl _ _, val _, val _, sl _ _, sl _ _, sl _ _, sl _ _, val _]) (by decide) (by exact tI)))
 refine j6 ?_
 refine pg ?_
 refine pg ?_
 refine rA ?_ (x := cL [(true, [sl _ _, val _]), (true, [sl _ _, val _])] [(true, [sl .v _, val _]), (true, [sl .v _, val _])] OT (hs := by exact Tm))
 refine rA ?_ (x := nT)
 refine sc (fun hba => ?_) (fun hba => ?_)
 exact cd
 refine cP ?_
 refine pi ?_
 refine rA ?_ (x := lF i4)
 refine dV ?_
 refine sc (fun hbb => ?_) (fun hbb => ?_)
 exact cd
 refine cP ?_
 refine rA ?_ (x := lF lR)
 refine rA ?_ (x := lD [sl .v _] bq)
 refine rA ?_ (x := lF lR)
 refine nV ?_
 refine sc (fun hbc => ?_) (fun hbc => ?_)
 exact cd
 refine cP ?_
 refine ji ?_
 refine ji ?_
 refine rA ?_ (x := cL [(false, [sl _ _]), (false, [sl _ _])] [(false, [sl .v _]), (false, [sl .v _])] OV (hs := by exact Tn))
 refine rA ?_ (x := nT)
 refine sc (fun hbd => ?_) (fun hbd => ?_)
 exact cd
 refine cP ?_
 refine my ?_
 refine my ?_
 refine rA ?_ (x := cL [(false, [sl _ _]), (false, [sl _ _])] [(false, [sl .v _]), (false, [sl .v _])] OW (hs := by exact Tp))
 refine rA ?_ (x := nT)
 refine sc (fun hbe => ?_) (fun hbe => ?_)
 exact cd
 refine cP ?_
 refine nM ?_
 refine nM ?_
 refine rA ?_ (x := cL [(false, [sl _ _]), (false, [sl _ _])] [(false, [sl .v _]), (false, [sl .v _])] OX (hs := by exact Td))
 refine rA ?_ (x := nT)
 refine sc (fun hbf => ?_) (fun hbf => ?_)
 exact cd
 refine cP ?_
 refine rA ?_ (x := lF ju)
 refine rA ?_ (x := lD [val _] au)
 refine rA ?_ (x := lF ju)
 refine dV ?_
 refine sc (fun hbg => ?_) (fun hbg => ?_)
 exact cd
 refine kE ?_
 exact rb (by exact (iW (by apply N9 <;> simp_all [fC])).symm)
end Go.Proofs.YtmekkgdboplbjaaGreat
