/- What functions of the program compute. No condition. -/
import Derived.Test.YtmekkgdboplbjaaGreatCD0
import Derived.Test.YtmekkgdboplbjaaGreatCF0
set_option linter.all false
namespace Go.Proofs.YtmekkgdboplbjaaGreat
open Go Go.RowKit M PV Tryz
set_option maxRecDepth 10000
attribute [local irreducible] PV.Lcl PV.LclR RV.Lcl
def YF {x : List Int} {y : List Int}  : aB prog 123 [(false, [sl .v (x.map ak)]), (false, [sl .v (y.map ak)])] (aA [(false, [val (.bool (du x y))])]) := by
 refine sF func123 fun h0 w0 Fz0 => ?_
 refine sj 0 fun hl0 => ?_
 refine sj 1 fun hl1 => ?_
 refine px ?_
 refine uF ?_
 refine xO ?_
 refine sc (fun hba => ?_) (fun hba => ?_)
 exact nW
 have hl : x.length = y.length := by omega
 refine mT ?_
 rintro k ⟨hk, ha⟩
 refine jX ?_
 refine sc (fun hbb => ?_) (fun hbb => ?_)
 have hlt : k < x.length := by omega
 have hlt2 : k < y.length := by omega
 refine lW ?_
 refine sb ?_
 refine eY ?_
 refine AY ?_
 refine dA 255 ?_ (x := eX)
 refine sc (fun hbc => ?_) (fun hbc => ?_)
 have hne : x[k] ≠ y[k] := by simpa using hbc
 exact Gf
 have heq : x[k] = y[k] := by simpa using hbc
 exact Gg
 exact mK
def YG {x : dg} {y : dg}  : aB prog 267 [(true, [val (vI x.Field), val (vI x.Low), val (vI x.High)]), (true, [val (vI y.Field), val (vI y.Low), val (vI y.High)])] (aA [(false, [val (.bool (du x y))])]) := by
 refine sF func267 fun h0 w0 Fz0 => ?_
 refine wX ?_
 refine rX ?_ (x := (dG (ag := true) (cs := [val _, val _, val _]) (by decide) (by exact tI)))
 refine kX ?_
 refine BP ?_
 refine rA ?_ (x := lF mh)
 refine et ?_
 refine sc (fun hba => ?_) (fun hba => ?_)
 exact cq
 refine de ?_
 refine rA ?_ (x := lF pQ)
 refine rA ?_ (x := lD [val _] au)
 refine rA ?_ (x := lF pQ)
 refine et ?_
 refine sc (fun hbb => ?_) (fun hbb => ?_)
 exact cq
 refine de ?_
 refine rA ?_ (x := lF mi)
 refine rA ?_ (x := lD [val _] au)
 refine rA ?_ (x := lF mi)
 refine et ?_
 refine sc (fun hbc => ?_) (fun hbc => ?_)
 exact cq
 refine lV ?_
 exact rb (by exact (jA (by apply So <;> simp_all [gr])).symm)
def YH {x : cU} {y : cU}  : aB prog 218 [(true, [val (vI x.Segment), val (vI x.Base), sl .v (x.Ids.map ak), sl .v (x.acA.map ak), sl .v (x.Rows.map ak)]), (true, [val (vI y.Segment), val (vI y.Base), sl .v (y.Ids.map ak), sl .v (y.acA.map ak), sl .v (y.Rows.map ak)])] (aA [(false, [val (.bool (du x y))])]) := by
 refine sF func218 fun h0 w0 Fz0 => ?_
 refine sn 0 2 fun hl0_2 => ?_
 refine sn 0 3 fun hl0_3 => ?_
 refine sn 0 4 fun hl0_4 => ?_
 refine sn 1 2 fun hl1_2 => ?_
 refine sn 1 3 fun hl1_3 => ?_
 refine sn 1 4 fun hl1_4 => ?_
 refine qC ?_
 refine rX ?_ (x := (dG (ag := true) (cs := [val _, val _, sl _ _, sl _ _, sl _ _]) (by decide) (by exact tI)))
 refine kX ?_
 refine rA ?_ (x := lF pS)
 refine rA ?_ (x := lD [val _] au)
 refine rA ?_ (x := lF pS)
 refine et ?_
 refine sc (fun hba => ?_) (fun hba => ?_)
 exact cq
 refine de ?_
 refine rA ?_ (x := lF ng)
 refine rA ?_ (x := lD [val _] au)
 refine rA ?_ (x := lF ng)
 refine et ?_
 refine sc (fun hbb => ?_) (fun hbb => ?_)
 exact cq
 refine de ?_
 refine BO ?_
 refine rA ?_ (x := lF mn)
 refine pE ?_
 refine sc (fun hbc => ?_) (fun hbc => ?_)
 exact cq
 refine de ?_
 refine rA ?_ (x := lF kl)
 refine rA ?_ (x := lD [sl .v _] bv)
 refine rA ?_ (x := lF kl)
 refine pE ?_
 refine sc (fun hbd => ?_) (fun hbd => ?_)
 exact cq
 refine de ?_
 refine rA ?_ (x := lF iZ)
 refine rA ?_ (x := lD [sl .v _] bv)
 refine rA ?_ (x := lF iZ)
 refine pE ?_
 refine sc (fun hbe => ?_) (fun hbe => ?_)
 exact cq
 refine lV ?_
 exact rb (by exact (jA (by apply Sp <;> simp_all [gr])).symm)
def YI {x : List dg} {y : List dg}  : aB prog 219 [(false, [sl .v (x.map bj)]), (false, [sl .v (y.map bj)])] (aA [(false, [val (.bool (du x y))])]) := by
 refine sF func219 fun h0 w0 Fz0 => ?_
 refine sj 0 fun hl0 => ?_
 refine sj 1 fun hl1 => ?_
 refine oC ?_
 refine rA ?_ (x := lN eC)
 refine rA ?_ (x := vM false [sl .v _])
 refine rA ?_ (x := lN eC)
 refine rA ?_ (x := eX)
 refine sc (fun hba => ?_) (fun hba => ?_)
 exact nW
 have hl : x.length = y.length := by omega
 refine mT ?_
 rintro k ⟨hk, ha⟩
 refine cP ?_
 refine xp ?_
 refine sc (fun hbb => ?_) (fun hbb => ?_)
 have hlt : k < x.length := by omega
 have hlt2 : k < y.length := by omega
 refine lW ?_
 refine KO ?_
 refine eY ?_
 refine KM ?_
 refine dA 255 ?_ (x := cL [(true, [val _, val _, val _]), (true, [val _, val _, val _])] [(true, [val _, val _, val _]), (true, [val _, val _, val _])] UF (hs := by exact YG))
 exact pm
 exact mK
def OV {x : Row} {y : Row}  : aB prog 220 [(true, [val (vI x.Id), sl .v (x.Values.map ak)]), (true, [val (vI y.Id), sl .v (y.Values.map ak)])] (aA [(false, [val (.bool (du x y))])]) := by
 refine sF func220 fun h0 w0 Fz0 => ?_
 refine sn 0 1 fun hl0_1 => ?_
 refine sn 1 1 fun hl1_1 => ?_
 refine Mm ?_
 refine kX ?_
 refine rA ?_ (x := lF kk)
 refine BU ?_
 refine et ?_
 refine sc (fun hba => ?_) (fun hba => ?_)
 exact cq
 refine de ?_
 refine rA ?_ (x := lF iw)
 refine rA ?_ (x := lD [sl .v _] bv)
 refine rA ?_ (x := lF iw)
 refine pE ?_
 refine sc (fun hbb => ?_) (fun hbb => ?_)
 exact cq
 refine lV ?_
 exact rb (by exact (jA (by apply Sq <;> simp_all [gr])).symm)
def YJ {x : aU} {y : aU}  : aB prog 282 [(true, [val (vI x.Id), sl .v (x.Values.map ak), val (vI x.acI), val (vI x.acE)]), (true, [val (vI y.Id), sl .v (y.Values.map ak), val (vI y.acI), val (vI y.acE)])] (aA [(false, [val (.bool (du x y))])]) := by
 refine sF func282 fun h0 w0 Fz0 => ?_
 refine sn 0 1 fun hl0_1 => ?_
 refine sn 1 1 fun hl1_1 => ?_
 refine Bo ?_
 refine kX ?_
 refine xz ?_
 refine et ?_
 refine sc (fun hba => ?_) (fun hba => ?_)
 exact cq
 refine de ?_
 refine rA ?_ (x := lF jE)
 refine rA ?_ (x := lD [sl .v _] bv)
 refine rA ?_ (x := lF jE)
 refine pE ?_
 refine sc (fun hbb => ?_) (fun hbb => ?_)
 exact cq
 refine de ?_
 refine BQ ?_
 refine rA ?_ (x := lF jF)
 refine et ?_
 refine sc (fun hbc => ?_) (fun hbc => ?_)
 exact cq
 refine de ?_
 refine rA ?_ (x := lF gG)
 refine rA ?_ (x := lD [val _] au)
 refine rA ?_ (x := lF gG)
 refine et ?_
 refine sc (fun hbd => ?_) (fun hbd => ?_)
 exact cq
 refine lV ?_
 exact rb (by exact (jA (by apply Ss <;> simp_all [gr])).symm)
def YK {p1 p2 p3 p5 p6 p7 : Fl} {x : List cU} {y : List cU}  : aB prog 126 [(false, [sl .v (x.map (aZ p1 p2 p3))]), (false, [sl .v (y.map (aZ p5 p6 p7))])] (aA [(false, [val (.bool (du x y))])]) := by
 refine sF func126 fun h0 w0 Fz0 => ?_
 refine sj 0 fun hl0 => ?_
 refine sj 1 fun hl1 => ?_
 refine oC ?_
 refine rA ?_ (x := lN eB)
 refine rA ?_ (x := vM false [sl .v _])
 refine rA ?_ (x := lN eB)
 refine rA ?_ (x := eX)
 refine sc (fun hba => ?_) (fun hba => ?_)
 exact nW
 have hl : x.length = y.length := by omega
 refine mT ?_
 rintro k ⟨hk, ha⟩
 refine cP ?_
 refine xq ?_
 refine sc (fun hbb => ?_) (fun hbb => ?_)
 have hlt : k < x.length := by omega
 have hlt2 : k < y.length := by omega
 refine lW ?_
 refine dA 3 ?_ (x := aY (by decide) eB (by exact tI) (by exact rfl) (by exact bc (by omega) rfl) (by exact rfl))
 refine dA 7 ?_ (x := lE [val _, val _, sl .v _, sl .v _, sl .v _] jJ)
 refine eY ?_
 refine dA 48 ?_ (x := aY (by decide) eB (by exact tI) (by exact rfl) (by exact bc (by omega) rfl) (by exact rfl))
 refine dA 112 ?_ (x := lE [val _, val _, sl .v _, sl .v _, sl .v _] jJ)
 refine dA 255 ?_ (x := cL [(true, [val _, val _, sl _ _, sl _ _, sl _ _]), (true, [val _, val _, sl _ _, sl _ _, sl _ _])] [(true, [val _, val _, sl .v _, sl .v _, sl .v _]), (true, [val _, val _, sl .v _, sl .v _, sl .v _])] Uq (hs := by exact YH))
 exact pm
 exact mK
def YL {x : acv} {y : acv}  : aB prog 127 [(true, [val (vI x.Id), val (vI x.acz), sl .v (x.acw.map bj), sl .v (x.Out.map ak)]), (true, [val (vI y.Id), val (vI y.acz), sl .v (y.acw.map bj), sl .v (y.Out.map ak)])] (aA [(false, [val (.bool (du x y))])]) := by
 refine sF func127 fun h0 w0 Fz0 => ?_
 refine sn 0 2 fun hl0_2 => ?_
 refine sn 0 3 fun hl0_3 => ?_
 refine sn 1 2 fun hl1_2 => ?_
 refine sn 1 3 fun hl1_3 => ?_
 refine Mh ?_
 refine kX ?_
 refine uv ?_
 refine rA ?_ (x := lF fx)
 refine et ?_
 refine sc (fun hba => ?_) (fun hba => ?_)
 exact cq
 refine de ?_
 refine rA ?_ (x := lF iY)
 refine rA ?_ (x := lD [val _] au)
 refine rA ?_ (x := lF iY)
 refine et ?_
 refine sc (fun hbb => ?_) (fun hbb => ?_)
 exact cq
 refine de ?_
 refine qJ ?_
 refine qJ ?_
 refine rA ?_ (x := cL [(false, [sl _ _]), (false, [sl _ _])] [(false, [sl .v _]), (false, [sl .v _])] Ur (hs := by exact YI))
 refine rA ?_ (x := nT)
 refine sc (fun hbc => ?_) (fun hbc => ?_)
 exact cq
 refine de ?_
 refine rA ?_ (x := lF ki)
 refine rA ?_ (x := lD [sl .v _] bv)
 refine rA ?_ (x := lF ki)
 refine pE ?_
 refine sc (fun hbd => ?_) (fun hbd => ?_)
 exact cq
 refine lV ?_
 exact rb (by exact (jA (by apply Su <;> simp_all [gr])).symm)
def YM {x : acx} {y : acx}  : aB prog 128 [(true, [val (vI x.Kind), val (vI x.Row.Id), sl .v (x.Row.Values.map ak), val (vI x.Field), val (vI x.Value)]), (true, [val (vI y.Kind), val (vI y.Row.Id), sl .v (y.Row.Values.map ak), val (vI y.Field), val (vI y.Value)])] (aA [(false, [val (.bool (du x y))])]) := by
 refine sF func128 fun h0 w0 Fz0 => ?_
 refine sn 0 2 fun hl0_2 => ?_
 refine sn 1 2 fun hl1_2 => ?_
 refine Md ?_
 refine kX ?_
 refine rA ?_ (x := lF lj)
 refine rA ?_ (x := lD [val _] au)
 refine rA ?_ (x := lF lj)
 refine et ?_
 refine sc (fun hba => ?_) (fun hba => ?_)
 exact cq
 refine de ?_
 refine BC ?_
 refine BC ?_
 refine rA ?_ (x := cL [(true, [val _, sl _ _]), (true, [val _, sl _ _])] [(true, [val _, sl .v _]), (true, [val _, sl .v _])] Nc (hs := by exact OV))
 refine rA ?_ (x := nT)
 refine sc (fun hbb => ?_) (fun hbb => ?_)
 exact cq
 refine de ?_
 refine rA ?_ (x := lF mj)
 refine rA ?_ (x := lD [val _] au)
 refine rA ?_ (x := lF mj)
 refine et ?_
 refine sc (fun hbc => ?_) (fun hbc => ?_)
 exact cq
 refine de ?_
 refine rA ?_ (x := lF nc)
 refine uu ?_
 refine et ?_
 refine sc (fun hbd => ?_) (fun hbd => ?_)
 exact cq
 refine lV ?_
 exact rb (by exact (jA (by apply Sy <;> simp_all [gr])).symm)
def YN {p1 p3 : Fl} {x : List aU} {y : List aU}  : aB prog 265 [(false, [sl .v (x.map (cX p1))]), (false, [sl .v (y.map (cX p3))])] (aA [(false, [val (.bool (du x y))])]) := by
 refine sF func265 fun h0 w0 Fz0 => ?_
 refine sj 0 fun hl0 => ?_
 refine sj 1 fun hl1 => ?_
 refine oC ?_
 refine rA ?_ (x := lN cv)
 refine AQ ?_
 refine rA ?_ (x := eX)
 refine sc (fun hba => ?_) (fun hba => ?_)
 exact nW
 have hl : x.length = y.length := by omega
 refine mT ?_
 rintro k ⟨hk, ha⟩
 refine cP ?_
 refine oj ?_
 refine sc (fun hbb => ?_) (fun hbb => ?_)
 have hlt : k < x.length := by omega
 have hlt2 : k < y.length := by omega
 refine lW ?_
 refine dA 3 ?_ (x := aY (by decide) cv (by exact tI) (by exact rfl) (by exact bc (by omega) rfl) (by exact rfl))
 refine dA 7 ?_ (x := lE [val _, sl .v _, val _, val _] en)
 refine eY ?_
 refine dA 48 ?_ (x := aY (by decide) cv (by exact tI) (by exact rfl) (by exact bc (by omega) rfl) (by exact rfl))
 refine dA 112 ?_ (x := lE [val _, sl .v _, val _, val _] en)
 refine dA 255 ?_ (x := cL [(true, [val _, sl _ _, val _, val _]), (true, [val _, sl _ _, val _, val _])] [(true, [val _, sl .v _, val _, val _]), (true, [val _, sl .v _, val _, val _])] UL (hs := by exact YJ))
 exact pm
 exact mK
def YO {p1 p3 : Fl} {x : List Row} {y : List Row}  : aB prog 266 [(false, [sl .v (x.map (bC p1))]), (false, [sl .v (y.map (bC p3))])] (aA [(false, [val (.bool (du x y))])]) := by
 refine sF func266 fun h0 w0 Fz0 => ?_
 refine sj 0 fun hl0 => ?_
 refine sj 1 fun hl1 => ?_
 refine oC ?_
 refine rA ?_ (x := lN gw)
 refine BR ?_
 refine rA ?_ (x := eX)
 refine sc (fun hba => ?_) (fun hba => ?_)
 exact nW
 have hl : x.length = y.length := by omega
 refine mT ?_
 rintro k ⟨hk, ha⟩
 refine cP ?_
 refine xr ?_
 refine sc (fun hbb => ?_) (fun hbb => ?_)
 have hlt : k < x.length := by omega
 have hlt2 : k < y.length := by omega
 refine lW ?_
 refine dA 3 ?_ (x := aY (by decide) gw (by exact tI) (by exact rfl) (by exact bc (by omega) rfl) (by exact rfl))
 refine dA 7 ?_ (x := lE [val _, sl .v _] fI)
 refine eY ?_
 refine dA 48 ?_ (x := aY (by decide) gw (by exact tI) (by exact rfl) (by exact bc (by omega) rfl) (by exact rfl))
 refine dA 112 ?_ (x := lE [val _, sl .v _] fI)
 refine dA 255 ?_ (x := cL [(true, [val _, sl _ _]), (true, [val _, sl _ _])] [(true, [val _, sl .v _]), (true, [val _, sl .v _])] Nc (hs := by exact OV))
 exact pm
 exact mK
def YP {x : cC} {y : cC}  : aB prog 42 [(true, [val (vI x.Kind), val (vI x.acv.Id), val (vI x.acv.acz), sl .v (x.acv.acw.map bj), sl .v (x.acv.Out.map ak), val (vI x.Limit), val (vI x.Id), val (vI x.acx.Kind), val (vI x.acx.Row.Id), sl .v (x.acx.Row.Values.map ak), val (vI x.acx.Field), val (vI x.acx.Value), val (vI x.Steps)]), (true, [val (vI y.Kind), val (vI y.acv.Id), val (vI y.acv.acz), sl .v (y.acv.acw.map bj), sl .v (y.acv.Out.map ak), val (vI y.Limit), val (vI y.Id), val (vI y.acx.Kind), val (vI y.acx.Row.Id), sl .v (y.acx.Row.Values.map ak), val (vI y.acx.Field), val (vI y.acx.Value), val (vI y.Steps)])] (aA [(false, [val (.bool (du x y))])]) := by
 refine sF func42 fun h0 w0 Fz0 => ?_
 refine sn 0 3 fun hl0_3 => ?_
 refine sn 0 4 fun hl0_4 => ?_
 refine sn 0 9 fun hl0_9 => ?_
 refine sn 1 3 fun hl1_3 => ?_
 refine sn 1 4 fun hl1_4 => ?_
 refine sn 1 9 fun hl1_9 => ?_
 refine ub ?_
 refine rX ?_ (x := (dG (ag := true) (cs := [val _, val _, val _, sl _ _, sl _ _, val _, val _, val _, val _, sl _ _, val _, val _, val _]) (by decide) (by exact tI)))
 refine kX ?_
 refine rA ?_ (x := lF uP)
 refine rA ?_ (x := lD [val _] au)
 refine rA ?_ (x := lF uP)
 refine et ?_
 refine sc (fun hba => ?_) (fun hba => ?_)
 exact cq
 refine de ?_
 refine pt ?_
 refine pt ?_
 refine AJ ?_
 refine sc (fun hbb => ?_) (fun hbb => ?_)
 exact cq
 refine de ?_
 refine BV ?_
 refine rA ?_ (x := lF pR)
 refine et ?_
 refine sc (fun hbc => ?_) (fun hbc => ?_)
 exact cq
 refine de ?_
 refine BW ?_
 refine rA ?_ (x := lF ml)
 refine et ?_
 refine sc (fun hbd => ?_) (fun hbd => ?_)
 exact cq
 refine de ?_
 refine qG ?_
 refine qG ?_
 refine rA ?_ (x := cL [(true, [val _, val _, sl _ _, val _, val _]), (true, [val _, val _, sl _ _, val _, val _])] [(true, [val _, val _, sl .v _, val _, val _]), (true, [val _, val _, sl .v _, val _, val _])] TJ (hs := by exact YM))
 refine rA ?_ (x := nT)
 refine sc (fun hbe => ?_) (fun hbe => ?_)
 exact cq
 refine de ?_
 refine BX ?_
 refine rA ?_ (x := lF nd)
 refine et ?_
 refine sc (fun hbf => ?_) (fun hbf => ?_)
 exact cq
 refine lV ?_
 exact rb (by exact (jA (by apply SB <;> simp_all [gr])).symm)
def YQ {p1 p2 p4 p5 : Fl} {x : List (List aU)} {y : List (List aU)}  : aB prog 215 [(false, [sl .v (x.map (aC p1 p2))]), (false, [sl .v (y.map (aC p4 p5))])] (aA [(false, [val (.bool (du x y))])]) := by
 refine sF func215 fun h0 w0 Fz0 => ?_
 refine sj 0 fun hl0 => ?_
 refine sj 1 fun hl1 => ?_
 refine oC ?_
 refine rA ?_ (x := lN di)
 refine rA ?_ (x := vM false [sl .v _])
 refine rA ?_ (x := lN di)
 refine rA ?_ (x := eX)
 refine sc (fun hba => ?_) (fun hba => ?_)
 exact nW
 have hl : x.length = y.length := by omega
 refine mT ?_
 rintro k ⟨hk, ha⟩
 refine cP ?_
 refine Cc ?_
 refine sc (fun hbb => ?_) (fun hbb => ?_)
 have hlt : k < x.length := by omega
 have hlt2 : k < y.length := by omega
 refine lW ?_
 refine dA 3 ?_ (x := aY (by decide) di (by exact tI) (by exact rfl) (by exact bc (by omega) rfl) (by exact rfl))
 refine dA 7 ?_ (x := lE [sl .v _] gx)
 refine eY ?_
 refine dA 48 ?_ (x := aY (by decide) di (by exact tI) (by exact rfl) (by exact bc (by omega) rfl) (by exact rfl))
 refine dA 112 ?_ (x := lE [sl .v _] gx)
 refine dA 255 ?_ (x := cL [(false, [sl _ _]), (false, [sl _ _])] [(false, [sl .v _]), (false, [sl .v _])] UD (hs := by exact YN))
 exact pm
 exact mK
def YR {p4 p9 : Fl} {x : acu} {y : acu}  : aB prog 216 [(true, [val (vI x.acv.Id), val (vI x.acv.acz), sl .v (x.acv.acw.map bj), sl .v (x.acv.Out.map ak), val (vI x.Time), sl .v (x.acD.map ak), val (vI x.Age), val (vI x.Sent), val (vI x.Cap), sl .v (x.Rows.map (bC p4))]), (true, [val (vI y.acv.Id), val (vI y.acv.acz), sl .v (y.acv.acw.map bj), sl .v (y.acv.Out.map ak), val (vI y.Time), sl .v (y.acD.map ak), val (vI y.Age), val (vI y.Sent), val (vI y.Cap), sl .v (y.Rows.map (bC p9))])] (aA [(false, [val (.bool (du x y))])]) := by
 refine sF func216 fun h0 w0 Fz0 => ?_
 refine sn 0 2 fun hl0_2 => ?_
 refine sn 0 3 fun hl0_3 => ?_
 refine sn 0 5 fun hl0_5 => ?_
 refine sn 0 9 fun hl0_9 => ?_
 refine sn 1 2 fun hl1_2 => ?_
 refine sn 1 3 fun hl1_3 => ?_
 refine sn 1 5 fun hl1_5 => ?_
 refine sn 1 9 fun hl1_9 => ?_
 refine ud ?_
 refine Lb ?_
 refine un ?_
 refine un ?_
 refine AJ ?_
 refine sc (fun hba => ?_) (fun hba => ?_)
 exact cq
 refine de ?_
 refine xm ?_
 refine rA ?_ (x := lF mZ)
 refine et ?_
 refine sc (fun hbb => ?_) (fun hbb => ?_)
 exact cq
 refine de ?_
 refine BM ?_
 refine rA ?_ (x := lF hR)
 refine pE ?_
 refine sc (fun hbc => ?_) (fun hbc => ?_)
 exact cq
 refine de ?_
 refine ut ?_
 refine rA ?_ (x := lF mf)
 refine et ?_
 refine sc (fun hbd => ?_) (fun hbd => ?_)
 exact cq
 refine de ?_
 refine rA ?_ (x := lF kc)
 refine rA ?_ (x := lD [val _] au)
 refine rA ?_ (x := lF kc)
 refine et ?_
 refine sc (fun hbe => ?_) (fun hbe => ?_)
 exact cq
 refine de ?_
 refine rA ?_ (x := lF mg)
 refine rA ?_ (x := lD [val _] au)
 refine rA ?_ (x := lF mg)
 refine et ?_
 refine sc (fun hbf => ?_) (fun hbf => ?_)
 exact cq
 refine de ?_
 refine rA ?_ (x := lF kd)
 refine rA ?_ (x := lD [sl .v _] gy)
 refine rA ?_ (x := lF kd)
 refine La ?_
 refine rA ?_ (x := nT)
 refine sc (fun hbg => ?_) (fun hbg => ?_)
 exact cq
 refine lV ?_
 exact rb (by exact (jA (by apply SC <;> simp_all [gr])).symm)
def YS {p3 p7 : Fl} {x : cI} {y : cI}  : aB prog 217 [(true, [val (vI x.acv.Id), val (vI x.acv.acz), sl .v (x.acv.acw.map bj), sl .v (x.acv.Out.map ak), val (vI x.Time), val (vI x.Steps), sl .v (x.Rows.map (bC p3))]), (true, [val (vI y.acv.Id), val (vI y.acv.acz), sl .v (y.acv.acw.map bj), sl .v (y.acv.Out.map ak), val (vI y.Time), val (vI y.Steps), sl .v (y.Rows.map (bC p7))])] (aA [(false, [val (.bool (du x y))])]) := by
 refine sF func217 fun h0 w0 Fz0 => ?_
 refine sn 0 2 fun hl0_2 => ?_
 refine sn 0 3 fun hl0_3 => ?_
 refine sn 0 6 fun hl0_6 => ?_
 refine sn 1 2 fun hl1_2 => ?_
 refine sn 1 3 fun hl1_3 => ?_
 refine sn 1 6 fun hl1_6 => ?_
 refine wN ?_
 refine rX ?_ (x := (dG (ag := true) (cs := [val _, val _, sl _ _, sl _ _, val _, val _, sl _ _]) (by decide) (by exact tI)))
 refine kX ?_
 refine uo ?_
 refine uo ?_
 refine AJ ?_
 refine sc (fun hba => ?_) (fun hba => ?_)
 exact cq
 refine de ?_
 refine rA ?_ (x := lF ri)
 refine rA ?_ (x := lD [val _] au)
 refine rA ?_ (x := lF ri)
 refine et ?_
 refine sc (fun hbb => ?_) (fun hbb => ?_)
 exact cq
 refine de ?_
 refine rA ?_ (x := lF rj)
 refine rA ?_ (x := lD [val _] au)
 refine rA ?_ (x := lF rj)
 refine et ?_
 refine sc (fun hbc => ?_) (fun hbc => ?_)
 exact cq
 refine de ?_
 refine rA ?_ (x := lF nf)
 refine rA ?_ (x := lD [sl .v _] gy)
 refine rA ?_ (x := lF nf)
 refine La ?_
 refine rA ?_ (x := nT)
 refine sc (fun hbd => ?_) (fun hbd => ?_)
 exact cq
 refine lV ?_
 exact rb (by exact (jA (by apply Sz <;> simp_all [gr])).symm)
def YT {p1 p2 p3 p5 p6 p7 : Fl} {x : List cC} {y : List cC}  : aB prog 50 [(false, [sl .v (x.map (hP p1 p2 p3))]), (false, [sl .v (y.map (hP p5 p6 p7))])] (aA [(false, [val (.bool (du x y))])]) := by
 refine sF func50 fun h0 w0 Fz0 => ?_
 refine sj 0 fun hl0 => ?_
 refine sj 1 fun hl1 => ?_
 refine oC ?_
 refine rA ?_ (x := lN ia)
 refine rA ?_ (x := vM false [sl .v _])
 refine rA ?_ (x := lN ia)
 refine rA ?_ (x := eX)
 refine sc (fun hba => ?_) (fun hba => ?_)
 exact nW
 have hl : x.length = y.length := by omega
 refine mT ?_
 rintro k ⟨hk, ha⟩
 refine cP ?_
 refine rA ?_ (x := lN ia)
 refine rA ?_ (x := cu)
 refine sc (fun hbb => ?_) (fun hbb => ?_)
 have hlt : k < x.length := by omega
 have hlt2 : k < y.length := by omega
 refine lW ?_
 refine dA 3 ?_ (x := aY (by decide) ia (by exact tI) (by exact rfl) (by exact bc (by omega) rfl) (by exact rfl))
 refine dA 7 ?_ (x := lE [val _, val _, val _, sl .v _, sl .v _, val _, val _, val _, val _, sl .v _, val _, val _, val _] ln)
 refine eY ?_
 refine dA 48 ?_ (x := aY (by decide) ia (by exact tI) (by exact rfl) (by exact bc (by omega) rfl) (by exact rfl))
 refine dA 112 ?_ (x := lE [val _, val _, val _, sl .v _, sl .v _, val _, val _, val _, val _, sl .v _, val _, val _, val _] ln)
 refine dA 255 ?_ (x := cL [(true, [val _, val _, val _, sl _ _, sl _ _, val _, val _, val _, val _, sl _ _, val _, val _, val _]), (true, [val _, val _, val _, sl _ _, sl _ _, val _, val _, val _, val _, sl _ _, val _, val _, val _])] [(true, [val _, val _, val _, sl .v _, sl .v _, val _, val _, val _, val _, sl .v _, val _, val _, val _]), (true, [val _, val _, val _, sl .v _, sl .v _, val _, val _, val _, val _, sl .v _, val _, val _, val _])] UO (hs := by exact YP))
 exact pm
 exact mK
def YU {p1 p2 p4 p5 : Fl} {x : Store} {y : Store}  : aB prog 122 [(true, [sl .v (x.act.map (aC p1 p2)), val (vI x.Now)]), (true, [sl .v (y.act.map (aC p4 p5)), val (vI y.Now)])] (aA [(false, [val (.bool (du x y))])]) := by
 refine sF func122 fun h0 w0 Fz0 => ?_
 refine sn 0 0 fun hl0_0 => ?_
 refine sn 1 0 fun hl1_0 => ?_
 refine jy ?_
 refine rX ?_ (x := (dG (ag := true) (cs := [sl _ _, val _]) (by decide) (by exact tI)))
 refine kX ?_
 refine rV ?_
 refine rV ?_
 refine rA ?_ (x := cL [(false, [sl _ _]), (false, [sl _ _])] [(false, [sl .v _]), (false, [sl .v _])] Un (hs := by exact YQ))
 refine rA ?_ (x := nT)
 refine sc (fun hba => ?_) (fun hba => ?_)
 exact cq
 refine de ?_
 refine rA ?_ (x := lF fV)
 refine rA ?_ (x := lD [val _] au)
 refine rA ?_ (x := lF fV)
 refine et ?_
 refine sc (fun hbb => ?_) (fun hbb => ?_)
 exact cq
 refine lV ?_
 exact rb (by exact (jA (by apply SE <;> simp_all [gr])).symm)
def YV {p1 p2 p3 p4 p5 p7 p8 p9 p10 p11 : Fl} {x : List acu} {y : List acu}  : aB prog 124 [(false, [sl .v (x.map (aQ p1 p2 p3 p4 p5))]), (false, [sl .v (y.map (aQ p7 p8 p9 p10 p11))])] (aA [(false, [val (.bool (du x y))])]) := by
 refine sF func124 fun h0 w0 Fz0 => ?_
 refine sj 0 fun hl0 => ?_
 refine sj 1 fun hl1 => ?_
 refine oC ?_
 refine rA ?_ (x := lN bL)
 refine rA ?_ (x := vM false [sl .v _])
 refine rA ?_ (x := lN bL)
 refine rA ?_ (x := eX)
 refine sc (fun hba => ?_) (fun hba => ?_)
 exact nW
 have hl : x.length = y.length := by omega
 refine mT ?_
 rintro k ⟨hk, ha⟩
 refine cP ?_
 refine Cd ?_
 refine sc (fun hbb => ?_) (fun hbb => ?_)
 have hlt : k < x.length := by omega
 have hlt2 : k < y.length := by omega
 refine lW ?_
 refine dA 3 ?_ (x := aY (by decide) bL (by exact tI) (by exact rfl) (by exact bc (by omega) rfl) (by exact rfl))
 refine dA 7 ?_ (x := lE [val _, val _, sl .v _, sl .v _, val _, sl .v _, val _, val _, val _, sl .v _] fW)
 refine eY ?_
 refine dA 48 ?_ (x := aY (by decide) bL (by exact tI) (by exact rfl) (by exact bc (by omega) rfl) (by exact rfl))
 refine dA 112 ?_ (x := lE [val _, val _, sl .v _, sl .v _, val _, sl .v _, val _, val _, val _, sl .v _] fW)
 refine dA 255 ?_ (x := cL [(true, [val _, val _, sl _ _, sl _ _, val _, sl _ _, val _, val _, val _, sl _ _]), (true, [val _, val _, sl _ _, sl _ _, val _, sl _ _, val _, val _, val _, sl _ _])] [(true, [val _, val _, sl .v _, sl .v _, val _, sl .v _, val _, val _, val _, sl .v _]), (true, [val _, val _, sl .v _, sl .v _, val _, sl .v _, val _, val _, val _, sl .v _])] Uo (hs := by exact YR))
 exact pm
 exact mK
def YW {p1 p2 p3 p4 p6 p7 p8 p9 : Fl} {x : List cI} {y : List cI}  : aB prog 125 [(false, [sl .v (x.map (aX p1 p2 p3 p4))]), (false, [sl .v (y.map (aX p6 p7 p8 p9))])] (aA [(false, [val (.bool (du x y))])]) := by
 refine sF func125 fun h0 w0 Fz0 => ?_
 refine sj 0 fun hl0 => ?_
 refine sj 1 fun hl1 => ?_
 refine oC ?_
 refine rA ?_ (x := lN fb)
 refine rA ?_ (x := vM false [sl .v _])
 refine rA ?_ (x := lN fb)
 refine rA ?_ (x := eX)
 refine sc (fun hba => ?_) (fun hba => ?_)
 exact nW
 have hl : x.length = y.length := by omega
 refine mT ?_
 rintro k ⟨hk, ha⟩
 refine cP ?_
 refine xt ?_
 refine sc (fun hbb => ?_) (fun hbb => ?_)
 have hlt : k < x.length := by omega
 have hlt2 : k < y.length := by omega
 refine lW ?_
 refine dA 3 ?_ (x := aY (by decide) fb (by exact tI) (by exact rfl) (by exact bc (by omega) rfl) (by exact rfl))
 refine dA 7 ?_ (x := lE [val _, val _, sl .v _, sl .v _, val _, val _, sl .v _] ni)
 refine eY ?_
 refine dA 48 ?_ (x := aY (by decide) fb (by exact tI) (by exact rfl) (by exact bc (by omega) rfl) (by exact rfl))
 refine dA 112 ?_ (x := lE [val _, val _, sl .v _, sl .v _, val _, val _, sl .v _] ni)
 refine dA 255 ?_ (x := cL [(true, [val _, val _, sl _ _, sl _ _, val _, val _, sl _ _]), (true, [val _, val _, sl _ _, sl _ _, val _, val _, sl _ _])] [(true, [val _, val _, sl .v _, sl .v _, val _, val _, sl .v _]), (true, [val _, val _, sl .v _, sl .v _, val _, val _, sl .v _])] Up (hs := by exact YS))
 exact pm
 exact mK
def Dd {p1 p2 p5 p6 p7 p8 p9 p11 p12 p13 p14 p16 p17 p18 p20 p21 p24 p25 p26 p27 p28 p30 p31 p32 p33 p35 p36 p37 : Fl} {x : aD} {y : aD}  : aB prog 41 [(true, [sl .v (x.Store.act.map (aC p1 p2)), val (vI x.Store.Now), val (vI x.acy), sl .v (x.Order.map ak), sl .v (x.acu.map (aQ p5 p6 p7 p8 p9)), sl .v (x.Done.map (aX p11 p12 p13 p14)), sl .v (x.acG.map (aZ p16 p17 p18)), val (vI x.Steps)]), (true, [sl .v (y.Store.act.map (aC p20 p21)), val (vI y.Store.Now), val (vI y.acy), sl .v (y.Order.map ak), sl .v (y.acu.map (aQ p24 p25 p26 p27 p28)), sl .v (y.Done.map (aX p30 p31 p32 p33)), sl .v (y.acG.map (aZ p35 p36 p37)), val (vI y.Steps)])] (aA [(false, [val (.bool (du x y))])]) := by
 refine sF func41 fun h0 w0 Fz0 => ?_
 refine sn 0 0 fun hl0_0 => ?_
 refine sn 0 3 fun hl0_3 => ?_
 refine sn 0 4 fun hl0_4 => ?_
 refine sn 0 5 fun hl0_5 => ?_
 refine sn 0 6 fun hl0_6 => ?_
 refine sn 1 0 fun hl1_0 => ?_
 refine sn 1 3 fun hl1_3 => ?_
 refine sn 1 4 fun hl1_4 => ?_
 refine sn 1 5 fun hl1_5 => ?_
 refine sn 1 6 fun hl1_6 => ?_
 refine jx ?_
 refine rX ?_ (x := (dG (ag := true) (cs := [sl _ _, val _, val _, sl _ _, sl _ _, sl _ _, sl _ _, val _]) (by decide) (by exact tI)))
 refine kX ?_
 refine qI ?_
 refine qI ?_
 refine rA ?_ (x := cL [(true, [sl _ _, val _]), (true, [sl _ _, val _])] [(true, [sl .v _, val _]), (true, [sl .v _, val _])] TD (hs := by exact YU))
 refine rA ?_ (x := nT)
 refine sc (fun hba => ?_) (fun hba => ?_)
 exact cq
 refine de ?_
 refine qK ?_
 refine rA ?_ (x := lF jG)
 refine et ?_
 refine sc (fun hbb => ?_) (fun hbb => ?_)
 exact cq
 refine de ?_
 refine rA ?_ (x := lF nb)
 refine rA ?_ (x := lD [sl .v _] bv)
 refine rA ?_ (x := lF nb)
 refine pE ?_
 refine sc (fun hbc => ?_) (fun hbc => ?_)
 exact cq
 refine de ?_
 refine jV ?_
 refine jV ?_
 refine rA ?_ (x := cL [(false, [sl _ _]), (false, [sl _ _])] [(false, [sl .v _]), (false, [sl .v _])] TF (hs := by exact YV))
 refine rA ?_ (x := nT)
 refine sc (fun hbd => ?_) (fun hbd => ?_)
 exact cq
 refine de ?_
 refine oi ?_
 refine oi ?_
 refine rA ?_ (x := cL [(false, [sl _ _]), (false, [sl _ _])] [(false, [sl .v _]), (false, [sl .v _])] TG (hs := by exact YW))
 refine rA ?_ (x := nT)
 refine sc (fun hbe => ?_) (fun hbe => ?_)
 exact cq
 refine de ?_
 refine pz ?_
 refine pz ?_
 refine rA ?_ (x := cL [(false, [sl _ _]), (false, [sl _ _])] [(false, [sl .v _]), (false, [sl .v _])] TH (hs := by exact YK))
 refine rA ?_ (x := nT)
 refine sc (fun hbf => ?_) (fun hbf => ?_)
 exact cq
 refine de ?_
 refine rA ?_ (x := lF kh)
 refine rA ?_ (x := lD [val _] au)
 refine rA ?_ (x := lF kh)
 refine et ?_
 refine sc (fun hbg => ?_) (fun hbg => ?_)
 exact cq
 refine lV ?_
 exact rb (by exact (jA (by apply SJ <;> simp_all [gr])).symm)
end Go.Proofs.YtmekkgdboplbjaaGreat
