/- What functions of the program compute. No condition. -/
import Derived.Test.YtmekkgdboplbjaaGreatCF1
set_option linter.all false
namespace Go.Proofs.YtmekkgdboplbjaaGreat
open Go Go.RowKit M PV Tryz
set_option maxRecDepth 10000
attribute [local irreducible] PV.Lcl PV.LclR RV.Lcl
def adQ {x : aeA}  : aN prog 193 [(true, [val (vI x.Id), val (vI x.aeE), sl .v (x.aeB.map bH), sl .v (x.Out.map am)])] (aJ [(false, [val (.bool (lT x))])]) := by
 refine sF func193 fun h0 w0 Fz0 => ?_
 refine sn 0 2 fun hl0_2 => ?_
 refine sn 0 3 fun hl0_3 => ?_
 refine nk ?_
 refine pB ?_
 refine rA ?_ (x := lF ib)
 refine oA ?_
 refine cx 6 (fun ga sga => ?_) (fun ga sga => ?_)
 refine rB ga ?_ (x := lF rm)
 refine oy ?_
 refine cx 11 (fun gb sgb => ?_) (fun gb sgb => ?_)
 refine vL ?_
 refine rB gb ?_ (x := dQ)
 refine gt ?_
 refine cx 17 (fun gc sgc => ?_) (fun gc sgc => ?_)
 refine sV ?_
 refine rB gc ?_ (x := lN bC)
 refine rB gc ?_ (x := dQ)
 refine rA ?_ (x := aO gc)
 exact ye
 refine oj ?_
 exact ye
 refine fU ?_
 refine aq.cases (s := 17) rfl (fun g4 => nomatch g4) (fun g4 => ?_)
 refine td ?_
 exact ye
 refine gu ?_
 refine aq.cases (s := 11) rfl (fun g5 => nomatch g5) (fun g5 => ?_)
 refine qK ?_
 refine rM ?_
 refine aq.cases (s := 17) rfl (fun g6 => nomatch g6) (fun g6 => ?_)
 refine py ?_
 exact ye
def adR {x : aeC}  : aN prog 192 [(true, [val (vI x.Kind), val (vI x.Row.Id), sl .v (x.Row.Values.map am), val (vI x.Field), val (vI x.Value)])] (aJ [(false, [val (.bool (lU x))])]) := by
 refine sF func192 fun h0 w0 Fz0 => ?_
 refine sn 0 2 fun hl0_2 => ?_
 refine yC ?_
 refine pB ?_
 refine px ?_
 refine rM ?_
 refine cx 6 (fun ga sga => ?_) (fun ga sga => ?_)
 refine rB ga ?_ (x := lF ic)
 refine rB ga ?_ (x := lF jZ)
 refine oy ?_
 refine cx 12 (fun gb sgb => ?_) (fun gb sgb => ?_)
 refine rB gb ?_ (x := lF ic)
 refine rB gb ?_ (x := lF jv)
 refine rB gb ?_ (x := lD [sl .v _] bF)
 refine rB gb ?_ (x := lN bC)
 refine rB gb ?_ (x := dQ)
 refine gt ?_
 refine cx 19 (fun gc sgc => ?_) (fun gc sgc => ?_)
 refine rB gc ?_ (x := lF ww)
 refine vp ?_
 refine hY ?_
 refine cx 24 (fun gd sgd => ?_) (fun gd sgd => ?_)
 refine rB gd ?_ (x := lF pK)
 refine yN ?_
 refine rA ?_ (x := aO gd)
 exact uV
 refine ov ?_
 exact uV
 refine lm ?_
 refine aq.cases (s := 24) rfl (fun g5 => nomatch g5) (fun g5 => ?_)
 refine qK ?_
 exact uV
 refine fU ?_
 refine aq.cases (s := 19) rfl (fun g6 => nomatch g6) (fun g6 => ?_)
 refine py ?_
 refine rM ?_
 refine aq.cases (s := 24) rfl (fun g7 => nomatch g7) (fun g7 => ?_)
 refine qM ?_
 exact uV
 refine gu ?_
 refine aq.cases (s := 12) rfl (fun g8 => nomatch g8) (fun g8 => ?_)
 refine te ?_
 refine rM ?_
 refine aq.cases (s := 19) rfl (fun g9 => nomatch g9) (fun g9 => ?_)
 refine ou ?_
 refine rM ?_
 refine aq.cases (s := 24) rfl (fun g10 => nomatch g10) (fun g10 => ?_)
 refine ot ?_
 exact uV
def adS {x : et}  : aN prog 86 [(true, [val (vI x.Kind), val (vI x.aeA.Id), val (vI x.aeA.aeE), sl .v (x.aeA.aeB.map bH), sl .v (x.aeA.Out.map am), val (vI x.Limit), val (vI x.Id), val (vI x.aeC.Kind), val (vI x.aeC.Row.Id), sl .v (x.aeC.Row.Values.map am), val (vI x.aeC.Field), val (vI x.aeC.Value), val (vI x.Steps)])] (aJ [(false, [val (.bool (fp x))])]) := by
 refine sF func86 fun h0 w0 Fz0 => ?_
 refine sn 0 3 fun hl0_3 => ?_
 refine sn 0 4 fun hl0_4 => ?_
 refine sn 0 9 fun hl0_9 => ?_
 refine Ov ?_
 refine lj ?_
 refine vR ?_
 refine qO ?_
 refine sc ?_ ?_ <;> intro hba
 refine sS [1, 2, 4] [1] ?_
 refine sK ?_
 refine OX ?_
 refine cx 10 (fun ga sga => ?_) (fun ga sga => ?_)
 refine rB ga ?_ (x := lF oG)
 refine vc ?_
 refine jP ?_
 refine cx 15 (fun gb sgb => ?_) (fun gb sgb => ?_)
 refine rB gb ?_ (x := lF oH)
 refine qB ?_
 refine gt ?_
 refine cx 20 (fun gc sgc => ?_) (fun gc sgc => ?_)
 refine rB gc ?_ (x := lF wx)
 refine CK ?_
 refine hY ?_
 refine cx 25 (fun gd sgd => ?_) (fun gd sgd => ?_)
 exact Cj
 exact yf
 refine lm ?_
 refine aq.cases (s := 25) rfl (fun g6 => nomatch g6) (fun g6 => ?_)
 refine py ?_
 exact jN
 refine fU ?_
 refine aq.cases (s := 20) rfl (fun g7 => nomatch g7) (fun g7 => ?_)
 refine qM ?_
 refine rM ?_
 refine aq.cases (s := 25) rfl (fun g8 => nomatch g8) (fun g8 => ?_)
 refine te ?_
 exact jN
 refine gu ?_
 refine aq.cases (s := 15) rfl (fun g9 => nomatch g9) (fun g9 => ?_)
 refine ou ?_
 refine rM ?_
 refine aq.cases (s := 20) rfl (fun g10 => nomatch g10) (fun g10 => ?_)
 refine ot ?_
 refine rM ?_
 refine aq.cases (s := 25) rfl (fun g11 => nomatch g11) (fun g11 => ?_)
 refine vS ?_
 exact jN
 refine qO ?_
 refine sc ?_ ?_ <;> intro hbb
 refine sS [1, 2, 4] [1] ?_
 refine Db ?_
 refine rM ?_
 refine cx 35 (fun ga sga => ?_) (fun ga sga => ?_)
 refine rB ga ?_ (x := lF oG)
 refine oy ?_
 refine cx 40 (fun gb sgb => ?_) (fun gb sgb => ?_)
 refine rB gb ?_ (x := lF oH)
 refine rB gb ?_ (x := lD [val _] az)
 refine CS ?_
 refine cx 45 (fun gc sgc => ?_) (fun gc sgc => ?_)
 refine rB gc ?_ (x := lF wx)
 refine CK ?_
 refine hY ?_
 refine cx 50 (fun gd sgd => ?_) (fun gd sgd => ?_)
 exact Cj
 exact yf
 refine lm ?_
 refine aq.cases (s := 50) rfl (fun g17 => nomatch g17) (fun g17 => ?_)
 refine qH ?_
 exact jN
 refine fU ?_
 refine aq.cases (s := 45) rfl (fun g18 => nomatch g18) (fun g18 => ?_)
 refine vU ?_
 refine rM ?_
 refine aq.cases (s := 50) rfl (fun g19 => nomatch g19) (fun g19 => ?_)
 refine tc ?_
 exact jN
 refine gu ?_
 refine aq.cases (s := 40) rfl (fun g20 => nomatch g20) (fun g20 => ?_)
 refine vT ?_
 refine rM ?_
 refine aq.cases (s := 45) rfl (fun g21 => nomatch g21) (fun g21 => ?_)
 refine zg ?_
 refine rM ?_
 refine aq.cases (s := 50) rfl (fun g22 => nomatch g22) (fun g22 => ?_)
 refine zf g22 ?_
 refine rA ?_ (x := aF g22)
 exact jN
 refine qO ?_
 refine sc ?_ ?_ <;> intro hbc
 refine sS [1, 2, 4] [1] ?_
 refine Db ?_
 refine rM ?_
 refine cx 60 (fun ga sga => ?_) (fun ga sga => ?_)
 refine rB ga ?_ (x := lF oG)
 refine oy ?_
 refine cx 65 (fun gb sgb => ?_) (fun gb sgb => ?_)
 refine rB gb ?_ (x := lF oH)
 refine qB ?_
 refine gt ?_
 refine cx 70 (fun gc sgc => ?_) (fun gc sgc => ?_)
 refine rB gc ?_ (x := lF wx)
 refine rB gc ?_ (x := lD [val _, val _, sl .v _, val _, val _] ma)
 refine rB gc ?_ (x := cL [(true, [val _, val _, sl _ _, val _, val _])] [(true, [val _, val _, sl .v _, val _, val _])] Qm (hs := by exact TK))
 refine hY ?_
 refine cx 75 (fun gd sgd => ?_) (fun gd sgd => ?_)
 exact Cj
 exact yf
 refine lm ?_
 refine aq.cases (s := 75) rfl (fun g28 => nomatch g28) (fun g28 => ?_)
 refine zf g28 ?_
 refine rA ?_ (x := aF g28)
 exact jN
 refine fU ?_
 refine aq.cases (s := 70) rfl (fun g29 => nomatch g29) (fun g29 => ?_)
 refine zf g29 ?_
 refine rA ?_ (x := aF g29)
 refine rM ?_
 refine aq.cases (s := 75) rfl (fun g30 => nomatch g30) (fun g30 => ?_)
 refine zf g30 ?_
 refine rA ?_ (x := aF g30)
 exact jN
 refine gu ?_
 refine aq.cases (s := 65) rfl (fun g31 => nomatch g31) (fun g31 => ?_)
 refine zf g31 ?_
 refine rA ?_ (x := aF g31)
 refine rM ?_
 refine aq.cases (s := 70) rfl (fun g32 => nomatch g32) (fun g32 => ?_)
 refine zf g32 ?_
 refine rA ?_ (x := aF g32)
 refine rM ?_
 refine aq.cases (s := 75) rfl (fun g33 => nomatch g33) (fun g33 => ?_)
 refine zf g33 ?_
 refine rA ?_ (x := aF g33)
 exact jN
 refine qO ?_
 refine sc ?_ ?_ <;> intro hbd
 refine sS [1, 2, 4] [1] ?_
 refine Db ?_
 refine rM ?_
 refine cx 85 (fun ga sga => ?_) (fun ga sga => ?_)
 refine rB ga ?_ (x := lF oG)
 refine oy ?_
 refine cx 90 (fun gb sgb => ?_) (fun gb sgb => ?_)
 refine rB gb ?_ (x := lF oH)
 refine qB ?_
 refine gt ?_
 refine cx 95 (fun gc sgc => ?_) (fun gc sgc => ?_)
 refine rB gc ?_ (x := lF wx)
 refine CK ?_
 refine hY ?_
 refine cx 100 (fun gd sgd => ?_) (fun gd sgd => ?_)
 refine rB gd ?_ (x := lF pL)
 refine CN ?_
 refine rA ?_ (x := aO gd)
 exact jN
 exact yf
 refine lm ?_
 refine aq.cases (s := 100) rfl (fun g39 => nomatch g39) (fun g39 => ?_)
 refine zf g39 ?_
 refine rA ?_ (x := aF g39)
 exact jN
 refine fU ?_
 refine aq.cases (s := 95) rfl (fun g40 => nomatch g40) (fun g40 => ?_)
 refine zf g40 ?_
 refine rA ?_ (x := aF g40)
 refine rM ?_
 refine aq.cases (s := 100) rfl (fun g41 => nomatch g41) (fun g41 => ?_)
 refine zf g41 ?_
 refine rA ?_ (x := aF g41)
 exact jN
 refine gu ?_
 refine aq.cases (s := 90) rfl (fun g42 => nomatch g42) (fun g42 => ?_)
 refine zf g42 ?_
 refine rA ?_ (x := aF g42)
 refine rM ?_
 refine aq.cases (s := 95) rfl (fun g43 => nomatch g43) (fun g43 => ?_)
 refine zf g43 ?_
 refine rA ?_ (x := aF g43)
 refine rM ?_
 refine aq.cases (s := 100) rfl (fun g44 => nomatch g44) (fun g44 => ?_)
 refine zf g44 ?_
 refine rA ?_ (x := aF g44)
 exact jN
 refine bb ?_
 refine sS [1, 2, 4] [1] ?_
 refine rK ?_
 exact LA
def adT {x : et}  : aN prog 82 [(true, [val (vI x.Kind), val (vI x.aeA.Id), val (vI x.aeA.aeE), sl .v (x.aeA.aeB.map bH), sl .v (x.aeA.Out.map am), val (vI x.Limit), val (vI x.Id), val (vI x.aeC.Kind), val (vI x.aeC.Row.Id), sl .v (x.aeC.Row.Values.map am), val (vI x.aeC.Field), val (vI x.aeC.Value), val (vI x.Steps)])] (aJ [(false, [val (.bool (fp x))])]) := by
 refine sF func82 fun h0 w0 Fz0 => ?_
 refine sn 0 3 fun hl0_3 => ?_
 refine sn 0 4 fun hl0_4 => ?_
 refine sn 0 9 fun hl0_9 => ?_
 refine Ov ?_
 refine pB ?_
 refine sK ?_
 refine rA ?_ (x := dp (qs := []) (cs := [val _, val _, sl _ _, sl _ _]) (by decide) kJ oK WJ (by exact rfl) (by exact tI) rfl (by exact rfl))
 refine rA ?_ (x := cL [(true, [val _, val _, sl _ _, sl _ _]), (true, [val _, val _, sl _ _, sl _ _])] [(true, [val _, val _, sl .v _, sl .v _]), (true, [val _, val _, sl .v _, sl .v _])] Wy (hs := by exact (adO (x := x.aeA) (y := ⟨0, 0, [], []⟩))))
 refine rM ?_
 refine cx 9 (fun ga sga => ?_) (fun ga sga => ?_)
 refine rB ga ?_ (x := lF oG)
 refine vh ?_
 refine rA ?_ (x := aO ga)
 refine rS ?_
 refine sS [1, 2, 3] [1] ?_
 refine vm ?_
 refine MP ?_
 refine ze ?_
 refine vR ?_
 refine pv ?_
 refine sc ?_ ?_ <;> intro hba
 refine sS [1, 2, 3, 4, 19] [1] ?_
 refine OU ?_
 refine rM ?_
 refine cx 25 (fun gb sgb => ?_) (fun gb sgb => ?_)
 refine rB gb ?_ (x := lF oG)
 refine yo ?_
 refine gt ?_
 refine cx 30 (fun gc sgc => ?_) (fun gc sgc => ?_)
 refine yU ?_
 refine hY ?_
 refine cx 35 (fun gd sgd => ?_) (fun gd sgd => ?_)
 exact LC
 refine aq.s0f gd ?_
 refine tl ?_
 refine aq.cases (s := 38) rfl (fun g7 => nomatch g7) (fun g7 => ?_)
 refine qM ?_
 exact fy
 refine lm ?_
 refine aq.cases (s := 35) rfl (fun g8 => nomatch g8) (fun g8 => ?_)
 refine aq.s0f g8 ?_
 refine rA ?_ (x := aF g8)
 refine rM ?_
 refine aq.cases (s := 38) rfl (fun g9 => nomatch g9) (fun g9 => ?_)
 refine ou ?_
 exact fy
 refine fU ?_
 refine aq.cases (s := 30) rfl (fun g10 => nomatch g10) (fun g10 => ?_)
 refine ot ?_
 refine rM ?_
 refine aq.cases (s := 35) rfl (fun g11 => nomatch g11) (fun g11 => ?_)
 refine aq.s0f g11 ?_
 refine rA ?_ (x := aF g11)
 refine rM ?_
 refine aq.cases (s := 38) rfl (fun g12 => nomatch g12) (fun g12 => ?_)
 refine yY ?_
 exact fy
 refine pv ?_
 refine sc ?_ ?_ <;> intro hbb
 refine sS [1, 2, 3, 4, 19] [1] ?_
 refine rA ?_ (x := lF oH)
 refine qX ?_
 refine cx 48 (fun gb sgb => ?_) (fun gb sgb => ?_)
 refine tj ?_
 refine cx 51 (fun gc sgc => ?_) (fun gc sgc => ?_)
 refine rB gc ?_ (x := sM)
 refine hY ?_
 refine cx 54 (fun gd sgd => ?_) (fun gd sgd => ?_)
 exact LD
 refine ov ?_
 exact fy
 refine aq.s0f gc ?_
 refine tk ?_
 refine aq.cases (s := 54) rfl (fun g17 => nomatch g17) (fun g17 => ?_)
 refine qH ?_
 exact fy
 refine tu ?_
 refine aq.cases (s := 51) rfl (fun g18 => nomatch g18) (fun g18 => ?_)
 refine aq.s0f g18 ?_
 refine rA ?_ (x := aF g18)
 refine rM ?_
 refine aq.cases (s := 54) rfl (fun g19 => nomatch g19) (fun g19 => ?_)
 refine tc ?_
 exact fy
 refine pv ?_
 refine sc ?_ ?_ <;> intro hbc
 refine sS [1, 2, 3, 4, 19] [1] ?_
 refine OJ ?_
 refine rM ?_
 refine cx 64 (fun gb sgb => ?_) (fun gb sgb => ?_)
 refine tj ?_
 refine cx 67 (fun gc sgc => ?_) (fun gc sgc => ?_)
 refine yU ?_
 refine hY ?_
 refine cx 72 (fun gd sgd => ?_) (fun gd sgd => ?_)
 exact LD
 refine ov ?_
 exact fy
 refine lm ?_
 refine aq.cases (s := 72) rfl (fun g24 => nomatch g24) (fun g24 => ?_)
 refine zf g24 ?_
 refine rA ?_ (x := aF g24)
 exact fy
 refine tu ?_
 refine aq.cases (s := 67) rfl (fun g25 => nomatch g25) (fun g25 => ?_)
 refine zf g25 ?_
 refine rA ?_ (x := aF g25)
 refine rM ?_
 refine aq.cases (s := 72) rfl (fun g26 => nomatch g26) (fun g26 => ?_)
 refine zf g26 ?_
 refine rA ?_ (x := aF g26)
 exact fy
 refine pv ?_
 refine sc ?_ ?_ <;> intro hbd
 refine sS [1, 2, 3, 4, 19] [1] ?_
 refine rA ?_ (x := lF pL)
 refine qX ?_
 refine cx 82 (fun gb sgb => ?_) (fun gb sgb => ?_)
 refine tj ?_
 refine cx 85 (fun gc sgc => ?_) (fun gc sgc => ?_)
 refine yU ?_
 refine hY ?_
 refine cx 90 (fun gd sgd => ?_) (fun gd sgd => ?_)
 refine rB gd ?_ (x := sM)
 refine rA ?_ (x := aO gd)
 exact fy
 refine aq.s0f gd ?_
 refine rA ?_ (x := aF gd)
 exact fy
 refine lm ?_
 refine aq.cases (s := 90) rfl (fun g31 => nomatch g31) (fun g31 => ?_)
 refine aq.s0f g31 ?_
 refine rA ?_ (x := aF g31)
 exact fy
 refine tu ?_
 refine aq.cases (s := 85) rfl (fun g32 => nomatch g32) (fun g32 => ?_)
 refine zf g32 ?_
 refine rA ?_ (x := aF g32)
 refine rM ?_
 refine aq.cases (s := 90) rfl (fun g33 => nomatch g33) (fun g33 => ?_)
 refine aq.s0f g33 ?_
 refine rA ?_ (x := aF g33)
 exact fy
 exact LF
 refine mz ?_
 refine rS ?_
 refine sS [1, 2, 3] [1] ?_
 refine vm ?_
 refine MP ?_
 refine ze ?_
 refine vR ?_
 refine pv ?_
 refine sc ?_ ?_ <;> intro hba
 refine sS [1, 2, 3, 4, 19] [1] ?_
 refine OU ?_
 refine rM ?_
 refine cx 25 (fun gb sgb => ?_) (fun gb sgb => ?_)
 refine rB gb ?_ (x := lF oG)
 refine yo ?_
 refine gt ?_
 refine cx 30 (fun gc sgc => ?_) (fun gc sgc => ?_)
 refine yU ?_
 refine hY ?_
 refine cx 35 (fun gd sgd => ?_) (fun gd sgd => ?_)
 exact LC
 refine aq.s0f gd ?_
 refine tl ?_
 refine aq.cases (s := 38) rfl (fun g39 => nomatch g39) (fun g39 => ?_)
 refine zf g39 ?_
 refine rA ?_ (x := aF g39)
 exact fy
 refine lm ?_
 refine aq.cases (s := 35) rfl (fun g40 => nomatch g40) (fun g40 => ?_)
 refine aq.s0f g40 ?_
 refine rA ?_ (x := aF g40)
 refine rM ?_
 refine aq.cases (s := 38) rfl (fun g41 => nomatch g41) (fun g41 => ?_)
 refine zf g41 ?_
 refine rA ?_ (x := aF g41)
 exact fy
 refine fU ?_
 refine aq.cases (s := 30) rfl (fun g42 => nomatch g42) (fun g42 => ?_)
 refine zf g42 ?_
 refine rA ?_ (x := aF g42)
 refine rM ?_
 refine aq.cases (s := 35) rfl (fun g43 => nomatch g43) (fun g43 => ?_)
 refine aq.s0f g43 ?_
 refine rA ?_ (x := aF g43)
 refine rM ?_
 refine aq.cases (s := 38) rfl (fun g44 => nomatch g44) (fun g44 => ?_)
 refine zf g44 ?_
 refine rA ?_ (x := aF g44)
 exact fy
 refine pv ?_
 refine sc ?_ ?_ <;> intro hbb
 refine sS [1, 2, 3, 4, 19] [1] ?_
 refine rA ?_ (x := lF oH)
 refine qX ?_
 refine cx 48 (fun gb sgb => ?_) (fun gb sgb => ?_)
 refine tj ?_
 refine aq.cases (s := 51) rfl (fun g47 => nomatch g47) (fun g47 => ?_)
 refine aq.s0f g47 ?_
 refine rA ?_ (x := aF g47)
 refine rM ?_
 refine aq.cases (s := 54) rfl (fun g48 => nomatch g48) (fun g48 => ?_)
 refine zf g48 ?_
 refine rA ?_ (x := aF g48)
 exact fy
 refine tu ?_
 refine aq.cases (s := 51) rfl (fun g49 => nomatch g49) (fun g49 => ?_)
 refine aq.s0f g49 ?_
 refine rA ?_ (x := aF g49)
 refine rM ?_
 refine aq.cases (s := 54) rfl (fun g50 => nomatch g50) (fun g50 => ?_)
 refine zf g50 ?_
 refine rA ?_ (x := aF g50)
 exact fy
 refine pv ?_
 refine sc ?_ ?_ <;> intro hbc
 refine sS [1, 2, 3, 4, 19] [1] ?_
 refine OJ ?_
 refine rM ?_
 refine cx 64 (fun gb sgb => ?_) (fun gb sgb => ?_)
 refine tj ?_
 refine aq.cases (s := 67) rfl (fun g53 => nomatch g53) (fun g53 => ?_)
 refine zf g53 ?_
 refine rA ?_ (x := aF g53)
 refine rM ?_
 refine aq.cases (s := 72) rfl (fun g54 => nomatch g54) (fun g54 => ?_)
 refine zf g54 ?_
 refine rA ?_ (x := aF g54)
 exact fy
 refine tu ?_
 refine aq.cases (s := 67) rfl (fun g55 => nomatch g55) (fun g55 => ?_)
 refine zf g55 ?_
 refine rA ?_ (x := aF g55)
 refine rM ?_
 refine aq.cases (s := 72) rfl (fun g56 => nomatch g56) (fun g56 => ?_)
 refine zf g56 ?_
 refine rA ?_ (x := aF g56)
 exact fy
 refine pv ?_
 refine sc ?_ ?_ <;> intro hbd
 refine sS [1, 2, 3, 4, 19] [1] ?_
 refine rA ?_ (x := lF pL)
 refine qX ?_
 refine cx 82 (fun gb sgb => ?_) (fun gb sgb => ?_)
 refine tj ?_
 refine aq.cases (s := 85) rfl (fun g59 => nomatch g59) (fun g59 => ?_)
 refine zf g59 ?_
 refine rA ?_ (x := aF g59)
 refine rM ?_
 refine aq.cases (s := 90) rfl (fun g60 => nomatch g60) (fun g60 => ?_)
 refine aq.s0f g60 ?_
 refine rA ?_ (x := aF g60)
 exact fy
 refine tu ?_
 refine aq.cases (s := 85) rfl (fun g61 => nomatch g61) (fun g61 => ?_)
 refine zf g61 ?_
 refine rA ?_ (x := aF g61)
 refine rM ?_
 refine aq.cases (s := 90) rfl (fun g62 => nomatch g62) (fun g62 => ?_)
 refine aq.s0f g62 ?_
 refine rA ?_ (x := aF g62)
 exact fy
 exact LF
end Go.Proofs.YtmekkgdboplbjaaGreat
