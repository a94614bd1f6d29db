/- What functions of the program compute. No condition. -/
import Derived.Test.YtmekkgdboplbjaaGreatCI1
set_option linter.all false
namespace Go.Proofs.YtmekkgdboplbjaaGreat
open Go Go.RowKit M PV Tryz
set_option maxRecDepth 10000
attribute [local irreducible] PV.Lcl PV.LclR RV.Lcl
def abW {x : acv}  : aB prog 193 [(true, [val (vI x.Id), val (vI x.acz), sl .v (x.acw.map bj), sl .v (x.Out.map ak)])] (aA [(false, [val (.bool (lf x))])]) := by
 refine sF func193 fun h0 w0 Fz0 => ?_
 refine sn 0 2 fun hl0_2 => ?_
 refine sn 0 3 fun hl0_3 => ?_
 refine oe ?_
 refine mR ?_
 refine rA ?_ (x := lF fx)
 refine qX ?_
 refine cx 6 (fun ga sga => ?_) (fun ga sga => ?_)
 refine rB ga ?_ (x := lF iY)
 refine pv ?_
 refine gR ?_
 refine cx 11 (fun gb sgb => ?_) (fun gb sgb => ?_)
 refine uq ?_
 refine rB gb ?_ (x := lN eC)
 refine rB gb ?_ (x := eG)
 refine gQ ?_
 refine cx 17 (fun gc sgc => ?_) (fun gc sgc => ?_)
 refine xi ?_
 refine rB gc ?_ (x := lN bF)
 refine rB gc ?_ (x := eG)
 refine rA ?_ (x := aT gc)
 exact wk
 refine pw ?_
 exact wk
 refine gF ?_
 refine ar.cases (s := 17) rfl (fun g4 => nomatch g4) (fun g4 => ?_)
 refine st ?_
 exact wk
 refine hM ?_
 refine ar.cases (s := 11) rfl (fun g5 => nomatch g5) (fun g5 => ?_)
 refine sw ?_
 refine rM ?_
 refine ar.cases (s := 17) rfl (fun g6 => nomatch g6) (fun g6 => ?_)
 refine qM ?_
 exact wk
def abX {x : acx}  : aB prog 192 [(true, [val (vI x.Kind), val (vI x.Row.Id), sl .v (x.Row.Values.map ak), val (vI x.Field), val (vI x.Value)])] (aA [(false, [val (.bool (lg x))])]) := by
 refine sF func192 fun h0 w0 Fz0 => ?_
 refine sn 0 2 fun hl0_2 => ?_
 refine se ?_
 refine mR ?_
 refine pC ?_
 refine rM ?_
 refine cx 6 (fun ga sga => ?_) (fun ga sga => ?_)
 refine rB ga ?_ (x := lF hZ)
 refine rB ga ?_ (x := lF kk)
 refine pv ?_
 refine gR ?_
 refine cx 12 (fun gb sgb => ?_) (fun gb sgb => ?_)
 refine rB gb ?_ (x := lF hZ)
 refine rB gb ?_ (x := lF iw)
 refine rB gb ?_ (x := lD [sl .v _] bv)
 refine rB gb ?_ (x := lN bF)
 refine rB gb ?_ (x := eG)
 refine gQ ?_
 refine cx 19 (fun gc sgc => ?_) (fun gc sgc => ?_)
 refine rB gc ?_ (x := lF mj)
 refine wV ?_
 refine iV ?_
 refine cx 24 (fun gd sgd => ?_) (fun gd sgd => ?_)
 refine rB gd ?_ (x := lF nc)
 refine BT ?_
 refine rA ?_ (x := aT gd)
 exact tT
 refine qO ?_
 exact tT
 refine lY ?_
 refine ar.cases (s := 24) rfl (fun g5 => nomatch g5) (fun g5 => ?_)
 refine sw ?_
 exact tT
 refine gF ?_
 refine ar.cases (s := 19) rfl (fun g6 => nomatch g6) (fun g6 => ?_)
 refine qM ?_
 refine rM ?_
 refine ar.cases (s := 24) rfl (fun g7 => nomatch g7) (fun g7 => ?_)
 refine uB ?_
 exact tT
 refine hM ?_
 refine ar.cases (s := 12) rfl (fun g8 => nomatch g8) (fun g8 => ?_)
 refine zf g8 ?_
 refine rA ?_ (x := aK g8)
 refine rM ?_
 refine ar.cases (s := 19) rfl (fun g9 => nomatch g9) (fun g9 => ?_)
 refine qN ?_
 refine rM ?_
 refine ar.cases (s := 24) rfl (fun g10 => nomatch g10) (fun g10 => ?_)
 refine qL ?_
 exact tT
def abY {x : cC}  : aB prog 86 [(true, [val (vI x.Kind), val (vI x.acv.Id), val (vI x.acv.acz), sl .v (x.acv.acw.map bj), sl .v (x.acv.Out.map ak), val (vI x.Limit), val (vI x.Id), val (vI x.acx.Kind), val (vI x.acx.Row.Id), sl .v (x.acx.Row.Values.map ak), val (vI x.acx.Field), val (vI x.acx.Value), val (vI x.Steps)])] (aA [(false, [val (.bool (fv x))])]) := by
 refine sF func86 fun h0 w0 Fz0 => ?_
 refine sn 0 3 fun hl0_3 => ?_
 refine sn 0 4 fun hl0_4 => ?_
 refine sn 0 9 fun hl0_9 => ?_
 refine ub ?_
 refine lU ?_
 refine uy ?_
 refine qP ?_
 refine sc (fun hba => ?_) (fun hba => ?_)
 refine sS [1, 2, 4] [1] ?_
 refine pt ?_
 refine Lu ?_
 refine cx 10 (fun ga sga => ?_) (fun ga sga => ?_)
 refine rB ga ?_ (x := lF pR)
 refine tX ?_
 refine gR ?_
 refine cx 15 (fun gb sgb => ?_) (fun gb sgb => ?_)
 refine rB gb ?_ (x := lF ml)
 refine qH ?_
 refine gQ ?_
 refine cx 20 (fun gc sgc => ?_) (fun gc sgc => ?_)
 refine rB gc ?_ (x := lF mm)
 refine AK ?_
 refine iV ?_
 refine cx 25 (fun gd sgd => ?_) (fun gd sgd => ?_)
 exact Ak
 exact wl
 refine lY ?_
 refine ar.cases (s := 25) rfl (fun g6 => nomatch g6) (fun g6 => ?_)
 refine qM ?_
 exact jw
 refine gF ?_
 refine ar.cases (s := 20) rfl (fun g7 => nomatch g7) (fun g7 => ?_)
 refine uB ?_
 refine rM ?_
 refine ar.cases (s := 25) rfl (fun g8 => nomatch g8) (fun g8 => ?_)
 refine zf g8 ?_
 refine rA ?_ (x := aK g8)
 exact jw
 refine hM ?_
 refine ar.cases (s := 15) rfl (fun g9 => nomatch g9) (fun g9 => ?_)
 refine qN ?_
 refine rM ?_
 refine ar.cases (s := 20) rfl (fun g10 => nomatch g10) (fun g10 => ?_)
 refine qL ?_
 refine rM ?_
 refine ar.cases (s := 25) rfl (fun g11 => nomatch g11) (fun g11 => ?_)
 refine xE ?_
 exact jw
 refine qP ?_
 refine sc (fun hbb => ?_) (fun hbb => ?_)
 refine sS [1, 2, 4] [1] ?_
 refine Bc ?_
 refine rM ?_
 refine cx 35 (fun ga sga => ?_) (fun ga sga => ?_)
 refine xw ?_
 refine gR ?_
 refine cx 40 (fun gb sgb => ?_) (fun gb sgb => ?_)
 refine rB gb ?_ (x := lF ml)
 refine rB gb ?_ (x := lD [val _] au)
 refine AV ?_
 refine cx 45 (fun gc sgc => ?_) (fun gc sgc => ?_)
 refine rB gc ?_ (x := lF mm)
 refine AK ?_
 refine iV ?_
 refine cx 50 (fun gd sgd => ?_) (fun gd sgd => ?_)
 exact Ak
 exact wl
 refine lY ?_
 refine ar.cases (s := 50) rfl (fun g17 => nomatch g17) (fun g17 => ?_)
 refine sr ?_
 exact jw
 refine gF ?_
 refine ar.cases (s := 45) rfl (fun g18 => nomatch g18) (fun g18 => ?_)
 refine xG ?_
 refine rM ?_
 refine ar.cases (s := 50) rfl (fun g19 => nomatch g19) (fun g19 => ?_)
 refine uz ?_
 exact jw
 refine hM ?_
 refine ar.cases (s := 40) rfl (fun g20 => nomatch g20) (fun g20 => ?_)
 refine xF ?_
 refine rM ?_
 refine ar.cases (s := 45) rfl (fun g21 => nomatch g21) (fun g21 => ?_)
 refine zf g21 ?_
 refine rA ?_ (x := aK g21)
 refine rM ?_
 refine ar.cases (s := 50) rfl (fun g22 => nomatch g22) (fun g22 => ?_)
 refine zf g22 ?_
 refine rA ?_ (x := aK g22)
 exact jw
 refine qP ?_
 refine sc (fun hbc => ?_) (fun hbc => ?_)
 refine sS [1, 2, 4] [1] ?_
 refine Bc ?_
 refine rM ?_
 refine cx 60 (fun ga sga => ?_) (fun ga sga => ?_)
 refine xw ?_
 refine gR ?_
 refine cx 65 (fun gb sgb => ?_) (fun gb sgb => ?_)
 refine rB gb ?_ (x := lF ml)
 refine qH ?_
 refine gQ ?_
 refine cx 70 (fun gc sgc => ?_) (fun gc sgc => ?_)
 refine rB gc ?_ (x := lF mm)
 refine rB gc ?_ (x := lD [val _, val _, sl .v _, val _, val _] mo)
 refine rB gc ?_ (x := cL [(true, [val _, val _, sl _ _, val _, val _])] [(true, [val _, val _, sl .v _, val _, val _])] Na (hs := by exact Pe))
 refine iV ?_
 refine cx 75 (fun gd sgd => ?_) (fun gd sgd => ?_)
 exact Ak
 exact wl
 refine lY ?_
 refine ar.cases (s := 75) rfl (fun g28 => nomatch g28) (fun g28 => ?_)
 refine zf g28 ?_
 refine rA ?_ (x := aK g28)
 exact jw
 refine gF ?_
 refine ar.cases (s := 70) rfl (fun g29 => nomatch g29) (fun g29 => ?_)
 refine zf g29 ?_
 refine rA ?_ (x := aK g29)
 refine rM ?_
 refine ar.cases (s := 75) rfl (fun g30 => nomatch g30) (fun g30 => ?_)
 refine zf g30 ?_
 refine rA ?_ (x := aK g30)
 exact jw
 refine hM ?_
 refine ar.cases (s := 65) rfl (fun g31 => nomatch g31) (fun g31 => ?_)
 refine zf g31 ?_
 refine rA ?_ (x := aK g31)
 refine rM ?_
 refine ar.cases (s := 70) rfl (fun g32 => nomatch g32) (fun g32 => ?_)
 refine zf g32 ?_
 refine rA ?_ (x := aK g32)
 refine rM ?_
 refine ar.cases (s := 75) rfl (fun g33 => nomatch g33) (fun g33 => ?_)
 refine zf g33 ?_
 refine rA ?_ (x := aK g33)
 exact jw
 refine qP ?_
 refine sc (fun hbd => ?_) (fun hbd => ?_)
 refine sS [1, 2, 4] [1] ?_
 refine Bc ?_
 refine rM ?_
 refine cx 85 (fun ga sga => ?_) (fun ga sga => ?_)
 refine xw ?_
 refine gR ?_
 refine cx 90 (fun gb sgb => ?_) (fun gb sgb => ?_)
 refine rB gb ?_ (x := lF ml)
 refine qH ?_
 refine gQ ?_
 refine cx 95 (fun gc sgc => ?_) (fun gc sgc => ?_)
 refine rB gc ?_ (x := lF mm)
 refine AK ?_
 refine iV ?_
 refine cx 100 (fun gd sgd => ?_) (fun gd sgd => ?_)
 refine rB gd ?_ (x := lF nd)
 refine AP ?_
 refine rA ?_ (x := aT gd)
 exact jw
 exact wl
 refine lY ?_
 refine ar.cases (s := 100) rfl (fun g39 => nomatch g39) (fun g39 => ?_)
 refine zf g39 ?_
 refine rA ?_ (x := aK g39)
 exact jw
 refine gF ?_
 refine ar.cases (s := 95) rfl (fun g40 => nomatch g40) (fun g40 => ?_)
 refine zf g40 ?_
 refine rA ?_ (x := aK g40)
 refine rM ?_
 refine ar.cases (s := 100) rfl (fun g41 => nomatch g41) (fun g41 => ?_)
 refine zf g41 ?_
 refine rA ?_ (x := aK g41)
 exact jw
 refine hM ?_
 refine ar.cases (s := 90) rfl (fun g42 => nomatch g42) (fun g42 => ?_)
 refine zf g42 ?_
 refine rA ?_ (x := aK g42)
 refine rM ?_
 refine ar.cases (s := 95) rfl (fun g43 => nomatch g43) (fun g43 => ?_)
 refine zf g43 ?_
 refine rA ?_ (x := aK g43)
 refine rM ?_
 refine ar.cases (s := 100) rfl (fun g44 => nomatch g44) (fun g44 => ?_)
 refine zf g44 ?_
 refine rA ?_ (x := aK g44)
 exact jw
 refine bm ?_
 refine sS [1, 2, 4] [1] ?_
 refine rK ?_
 exact IP
def abZ {x : cC}  : aB prog 82 [(true, [val (vI x.Kind), val (vI x.acv.Id), val (vI x.acv.acz), sl .v (x.acv.acw.map bj), sl .v (x.acv.Out.map ak), val (vI x.Limit), val (vI x.Id), val (vI x.acx.Kind), val (vI x.acx.Row.Id), sl .v (x.acx.Row.Values.map ak), val (vI x.acx.Field), val (vI x.acx.Value), val (vI x.Steps)])] (aA [(false, [val (.bool (fv x))])]) := by
 refine sF func82 fun h0 w0 Fz0 => ?_
 refine sn 0 3 fun hl0_3 => ?_
 refine sn 0 4 fun hl0_4 => ?_
 refine sn 0 9 fun hl0_9 => ?_
 refine ub ?_
 refine mR ?_
 refine pt ?_
 refine rA ?_ (x := fB (qs := []) (cs := [val _, val _, sl _ _, sl _ _]) (by decide) nj uZ Vs (by exact rfl) (by exact tI) rfl (by exact rfl))
 refine rA ?_ (x := cL [(true, [val _, val _, sl _ _, sl _ _]), (true, [val _, val _, sl _ _, sl _ _])] [(true, [val _, val _, sl .v _, sl .v _]), (true, [val _, val _, sl .v _, sl .v _])] TV (hs := by exact (abU (x := x.acv) (y := ⟨0, 0, [], []⟩))))
 refine rM ?_
 refine cx 9 (fun ga sga => ?_) (fun ga sga => ?_)
 refine xw ?_
 refine rA ?_ (x := aT ga)
 refine rS ?_
 refine sS [1, 2, 3] [1] ?_
 refine qG ?_
 refine Jy ?_
 refine eZ ?_
 refine sS [1, 2, 3, 4] [1] ?_
 refine uy ?_
 refine pB ?_
 refine sc (fun hba => ?_) (fun hba => ?_)
 refine sS [1, 2, 3, 4, 19] [1] ?_
 refine Lp ?_
 refine rM ?_
 refine cx 25 (fun gb sgb => ?_) (fun gb sgb => ?_)
 refine rB gb ?_ (x := lF pR)
 refine wC ?_
 refine gQ ?_
 refine cx 30 (fun gc sgc => ?_) (fun gc sgc => ?_)
 refine xx ?_
 refine iV ?_
 refine cx 35 (fun gd sgd => ?_) (fun gd sgd => ?_)
 exact IR
 refine ar.s0f gd ?_
 refine uH ?_
 refine ar.cases (s := 38) rfl (fun g7 => nomatch g7) (fun g7 => ?_)
 refine uB ?_
 exact fq
 refine lY ?_
 refine ar.cases (s := 35) rfl (fun g8 => nomatch g8) (fun g8 => ?_)
 refine ar.s0f g8 ?_
 refine rA ?_ (x := aK g8)
 refine rM ?_
 refine ar.cases (s := 38) rfl (fun g9 => nomatch g9) (fun g9 => ?_)
 refine qN ?_
 exact fq
 refine gF ?_
 refine ar.cases (s := 30) rfl (fun g10 => nomatch g10) (fun g10 => ?_)
 refine qL ?_
 refine rM ?_
 refine ar.cases (s := 35) rfl (fun g11 => nomatch g11) (fun g11 => ?_)
 refine ar.s0f g11 ?_
 refine rA ?_ (x := aK g11)
 refine rM ?_
 refine ar.cases (s := 38) rfl (fun g12 => nomatch g12) (fun g12 => ?_)
 refine zf g12 ?_
 refine rA ?_ (x := aK g12)
 exact fq
 refine pB ?_
 refine sc (fun hbb => ?_) (fun hbb => ?_)
 refine sS [1, 2, 3, 4, 19] [1] ?_
 refine rA ?_ (x := lF ml)
 refine qW ?_
 refine cx 48 (fun gb sgb => ?_) (fun gb sgb => ?_)
 refine sI ?_
 refine cx 51 (fun gc sgc => ?_) (fun gc sgc => ?_)
 refine rB gc ?_ (x := sM)
 refine iV ?_
 refine cx 54 (fun gd sgd => ?_) (fun gd sgd => ?_)
 exact IS
 refine qO ?_
 exact fq
 refine ar.s0f gc ?_
 refine uG ?_
 refine ar.cases (s := 54) rfl (fun g17 => nomatch g17) (fun g17 => ?_)
 refine sr ?_
 exact fq
 refine sK ?_
 refine ar.cases (s := 51) rfl (fun g18 => nomatch g18) (fun g18 => ?_)
 refine ar.s0f g18 ?_
 refine rA ?_ (x := aK g18)
 refine rM ?_
 refine ar.cases (s := 54) rfl (fun g19 => nomatch g19) (fun g19 => ?_)
 refine uz ?_
 exact fq
 refine pB ?_
 refine sc (fun hbc => ?_) (fun hbc => ?_)
 refine sS [1, 2, 3, 4, 19] [1] ?_
 refine Le ?_
 refine rM ?_
 refine cx 64 (fun gb sgb => ?_) (fun gb sgb => ?_)
 refine sI ?_
 refine cx 67 (fun gc sgc => ?_) (fun gc sgc => ?_)
 refine xx ?_
 refine iV ?_
 refine cx 72 (fun gd sgd => ?_) (fun gd sgd => ?_)
 exact IS
 refine qO ?_
 exact fq
 refine lY ?_
 refine ar.cases (s := 72) rfl (fun g24 => nomatch g24) (fun g24 => ?_)
 refine zf g24 ?_
 refine rA ?_ (x := aK g24)
 exact fq
 refine sK ?_
 refine ar.cases (s := 67) rfl (fun g25 => nomatch g25) (fun g25 => ?_)
 refine zf g25 ?_
 refine rA ?_ (x := aK g25)
 refine rM ?_
 refine ar.cases (s := 72) rfl (fun g26 => nomatch g26) (fun g26 => ?_)
 refine zf g26 ?_
 refine rA ?_ (x := aK g26)
 exact fq
 refine pB ?_
 refine sc (fun hbd => ?_) (fun hbd => ?_)
 refine sS [1, 2, 3, 4, 19] [1] ?_
 refine rA ?_ (x := lF nd)
 refine qW ?_
 refine cx 82 (fun gb sgb => ?_) (fun gb sgb => ?_)
 refine sI ?_
 refine cx 85 (fun gc sgc => ?_) (fun gc sgc => ?_)
 refine xx ?_
 refine iV ?_
 refine cx 90 (fun gd sgd => ?_) (fun gd sgd => ?_)
 refine rB gd ?_ (x := sM)
 refine rA ?_ (x := aT gd)
 exact fq
 refine ar.s0f gd ?_
 refine rA ?_ (x := aK gd)
 exact fq
 refine lY ?_
 refine ar.cases (s := 90) rfl (fun g31 => nomatch g31) (fun g31 => ?_)
 refine ar.s0f g31 ?_
 refine rA ?_ (x := aK g31)
 exact fq
 refine sK ?_
 refine ar.cases (s := 85) rfl (fun g32 => nomatch g32) (fun g32 => ?_)
 refine zf g32 ?_
 refine rA ?_ (x := aK g32)
 refine rM ?_
 refine ar.cases (s := 90) rfl (fun g33 => nomatch g33) (fun g33 => ?_)
 refine ar.s0f g33 ?_
 refine rA ?_ (x := aK g33)
 exact fq
 exact IT
 refine mL ?_
 refine rS ?_
 refine sS [1, 2, 3] [1] ?_
 refine qG ?_
 refine Jy ?_
 refine eZ ?_
 refine sS [1, 2, 3, 4] [1] ?_
 refine uy ?_
 refine pB ?_
 refine sc (fun hba => ?_) (fun hba => ?_)
 refine sS [1, 2, 3, 4, 19] [1] ?_
 refine Lp ?_
 refine rM ?_
 refine cx 25 (fun gb sgb => ?_) (fun gb sgb => ?_)
 refine rB gb ?_ (x := lF pR)
 refine wC ?_
 refine gQ ?_
 refine cx 30 (fun gc sgc => ?_) (fun gc sgc => ?_)
 refine xx ?_
 refine iV ?_
 refine cx 35 (fun gd sgd => ?_) (fun gd sgd => ?_)
 exact IR
 refine ar.s0f gd ?_
 refine uH ?_
 refine ar.cases (s := 38) rfl (fun g39 => nomatch g39) (fun g39 => ?_)
 refine zf g39 ?_
 refine rA ?_ (x := aK g39)
 exact fq
 refine lY ?_
 refine ar.cases (s := 35) rfl (fun g40 => nomatch g40) (fun g40 => ?_)
 refine ar.s0f g40 ?_
 refine rA ?_ (x := aK g40)
 refine rM ?_
 refine ar.cases (s := 38) rfl (fun g41 => nomatch g41) (fun g41 => ?_)
 refine zf g41 ?_
 refine rA ?_ (x := aK g41)
 exact fq
 refine gF ?_
 refine ar.cases (s := 30) rfl (fun g42 => nomatch g42) (fun g42 => ?_)
 refine zf g42 ?_
 refine rA ?_ (x := aK g42)
 refine rM ?_
 refine ar.cases (s := 35) rfl (fun g43 => nomatch g43) (fun g43 => ?_)
 refine ar.s0f g43 ?_
 refine rA ?_ (x := aK g43)
 refine rM ?_
 refine ar.cases (s := 38) rfl (fun g44 => nomatch g44) (fun g44 => ?_)
 refine zf g44 ?_
 refine rA ?_ (x := aK g44)
 exact fq
 refine pB ?_
 refine sc (fun hbb => ?_) (fun hbb => ?_)
 refine sS [1, 2, 3, 4, 19] [1] ?_
 refine rA ?_ (x := lF ml)
 refine qW ?_
 refine cx 48 (fun gb sgb => ?_) (fun gb sgb => ?_)
 refine sI ?_
 refine ar.cases (s := 51) rfl (fun g47 => nomatch g47) (fun g47 => ?_)
 refine ar.s0f g47 ?_
 refine rA ?_ (x := aK g47)
 refine rM ?_
 refine ar.cases (s := 54) rfl (fun g48 => nomatch g48) (fun g48 => ?_)
 refine zf g48 ?_
 refine rA ?_ (x := aK g48)
 exact fq
 refine sK ?_
 refine ar.cases (s := 51) rfl (fun g49 => nomatch g49) (fun g49 => ?_)
 refine ar.s0f g49 ?_
 refine rA ?_ (x := aK g49)
 refine rM ?_
 refine ar.cases (s := 54) rfl (fun g50 => nomatch g50) (fun g50 => ?_)
 refine zf g50 ?_
 refine rA ?_ (x := aK g50)
 exact fq
 refine pB ?_
 refine sc (fun hbc => ?_) (fun hbc => ?_)
 refine sS [1, 2, 3, 4, 19] [1] ?_
 refine Le ?_
 refine rM ?_
 refine cx 64 (fun gb sgb => ?_) (fun gb sgb => ?_)
 refine sI ?_
 refine ar.cases (s := 67) rfl (fun g53 => nomatch g53) (fun g53 => ?_)
 refine zf g53 ?_
 refine rA ?_ (x := aK g53)
 refine rM ?_
 refine ar.cases (s := 72) rfl (fun g54 => nomatch g54) (fun g54 => ?_)
 refine zf g54 ?_
 refine rA ?_ (x := aK g54)
 exact fq
 refine sK ?_
 refine ar.cases (s := 67) rfl (fun g55 => nomatch g55) (fun g55 => ?_)
 refine zf g55 ?_
 refine rA ?_ (x := aK g55)
 refine rM ?_
 refine ar.cases (s := 72) rfl (fun g56 => nomatch g56) (fun g56 => ?_)
 refine zf g56 ?_
 refine rA ?_ (x := aK g56)
 exact fq
 refine pB ?_
 refine sc (fun hbd => ?_) (fun hbd => ?_)
 refine sS [1, 2, 3, 4, 19] [1] ?_
 refine rA ?_ (x := lF nd)
 refine qW ?_
 refine cx 82 (fun gb sgb => ?_) (fun gb sgb => ?_)
 refine sI ?_
 refine ar.cases (s := 85) rfl (fun g59 => nomatch g59) (fun g59 => ?_)
 refine zf g59 ?_
 refine rA ?_ (x := aK g59)
 refine rM ?_
 refine ar.cases (s := 90) rfl (fun g60 => nomatch g60) (fun g60 => ?_)
 refine ar.s0f g60 ?_
 refine rA ?_ (x := aK g60)
 exact fq
 refine sK ?_
 refine ar.cases (s := 85) rfl (fun g61 => nomatch g61) (fun g61 => ?_)
 refine zf g61 ?_
 refine rA ?_ (x := aK g61)
 refine rM ?_
 refine ar.cases (s := 90) rfl (fun g62 => nomatch g62) (fun g62 => ?_)
 refine ar.s0f g62 ?_
 refine rA ?_ (x := aK g62)
 exact fq
 exact IT
end Go.Proofs.YtmekkgdboplbjaaGreat
